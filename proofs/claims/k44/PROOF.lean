import PyProof.Rows.All
import Wide.All
import OpenK.AllK
import Wide.FinOn
import HandS.ForMost
import HandS.Gcd
import HandS.IsInst
import HandS.TupAny
import HandS.Zip
import HandS.Wide
import HandS.Conv
import HandS.SortInts
import HandS.SortKw
import HandS.Defaults
import HandS.Walk
import HandS.HeadHook2
import HandS.Iter
import HandS.Dict
import HandS.More
import HandS.NoneIn
import KE.KStateDown
import HandS.Head0
import HandS.Head1
import HandS.Head2
import HandS.Head3
import HandS.HeadEnd
import HandS.HeadHook1
import PySem.Challenge.RW_wherelaid_k44_whole_lengths_that_tell_ev
set_option Elab.async false
set_option linter.all false
set_option maxRecDepth 100000
/-! A typed layer over the hand layer: expressions and statements denote Lean terms (in Option: none where nothing is promised). -/
namespace L2.T
open PySem PySem.Spec PyProof.Rows
abbrev Fg := PySem.W.Frag

/-! ### lists of values -/
def All2 {α : Type} (p : V → α → Prop) : List V → List α → Prop
  | [], [] => True
  | v :: vs, x :: xs => p v x ∧ All2 p vs xs
  | _, _ => False
section
variable {α : Type} {p q : V → α → Prop}
theorem All2.imp (h : ∀ v x, p v x → q v x) : ∀ {vs : List V} {xs : List α}, All2 p vs xs → All2 q vs xs
  | [], [], _ => trivial
  | _ :: _, _ :: _, a => ⟨h _ _ a.1, All2.imp h a.2⟩
  | [], _ :: _, a => a.elim
  | _ :: _, [], a => a.elim
theorem All2.len : ∀ {vs : List V} {xs : List α}, All2 p vs xs → vs.length = xs.length
  | [], [], _ => rfl
  | _ :: vs, _ :: xs, a => congrArg (· + 1) (All2.len a.2)
  | [], _ :: _, a => a.elim
  | _ :: _, [], a => a.elim
theorem All2.get : ∀ {vs : List V} {xs : List α} {i : Nat} {x : α}, All2 p vs xs → xs[i]? = some x → ∃ v, vs[i]? = some v ∧ p v x
  | [], [], i, x, _, h => by simp at h
  | v :: vs, y :: xs, 0, x, a, h => by
    have : y = x := by simpa using h
    subst this
    exact ⟨v, rfl, a.1⟩
  | v :: vs, y :: xs, i + 1, x, a, h => by
    obtain ⟨w, h1, h2⟩ := All2.get (i := i) a.2 (by simpa using h)
    exact ⟨w, by simpa using h1, h2⟩
  | [], _ :: _, _, _, a, _ => a.elim
  | _ :: _, [], _, _, a, _ => a.elim
theorem All2.getV : ∀ {vs : List V} {xs : List α} {i : Nat} {v : V}, All2 p vs xs → vs[i]? = some v → ∃ x, xs[i]? = some x ∧ p v x
  | [], [], i, x, _, h => by simp at h
  | v :: vs, y :: xs, 0, x, a, h => by
    have : v = x := by simpa using h
    subst this
    exact ⟨y, rfl, a.1⟩
  | v :: vs, y :: xs, i + 1, x, a, h => by
    obtain ⟨w, h1, h2⟩ := All2.getV (i := i) a.2 (by simpa using h)
    exact ⟨w, by simpa using h1, h2⟩
  | [], _ :: _, _, _, a, _ => a.elim
  | _ :: _, [], _, _, a, _ => a.elim
theorem All2.app : ∀ {vs ws : List V} {xs ys : List α}, All2 p vs xs → All2 p ws ys → All2 p (vs ++ ws) (xs ++ ys)
  | [], _, [], _, _, b => b
  | _ :: _, _, _ :: _, _, a, b => ⟨a.1, All2.app a.2 b⟩
  | [], _, _ :: _, _, a, _ => a.elim
  | _ :: _, _, [], _, a, _ => a.elim
theorem All2.one {v : V} {x : α} (h : p v x) : All2 p [v] [x] := ⟨h, trivial⟩
theorem All2.take : ∀ (n : Nat) {vs : List V} {xs : List α}, All2 p vs xs → All2 p (vs.take n) (xs.take n)
  | 0, _, _, _ => trivial
  | _ + 1, [], [], _ => trivial
  | n + 1, _ :: _, _ :: _, a => ⟨a.1, All2.take n a.2⟩
  | _ + 1, [], _ :: _, a => a.elim
  | _ + 1, _ :: _, [], a => a.elim
theorem All2.drop : ∀ (n : Nat) {vs : List V} {xs : List α}, All2 p vs xs → All2 p (vs.drop n) (xs.drop n)
  | 0, _, _, a => a
  | _ + 1, [], [], _ => trivial
  | n + 1, _ :: _, _ :: _, a => All2.drop n a.2
  | _ + 1, [], _ :: _, a => a.elim
  | _ + 1, _ :: _, [], a => a.elim
theorem All2.set : ∀ (n : Nat) {vs : List V} {xs : List α} {v : V} {x : α}, p v x → All2 p vs xs → All2 p (vs.set n v) (xs.set n x)
  | _, [], [], _, _, _, _ => trivial
  | 0, _ :: _, _ :: _, _, _, h, a => ⟨h, a.2⟩
  | n + 1, _ :: _, _ :: _, _, _, h, a => ⟨a.1, All2.set n h a.2⟩
  | _, [], _ :: _, _, _, _, a => a.elim
  | _, _ :: _, [], _, _, _, a => a.elim
theorem All2.rev : ∀ {vs : List V} {xs : List α}, All2 p vs xs → All2 p vs.reverse xs.reverse
  | [], [], _ => trivial
  | _ :: _, _ :: _, a => by
    rw [List.reverse_cons, List.reverse_cons]
    exact All2.app (All2.rev a.2) (All2.one a.1)
  | [], _ :: _, a => a.elim
  | _ :: _, [], a => a.elim
theorem All2.ints : ∀ {vs : List V} {xs : List Int}, All2 (fun v x => v = V.int x) vs xs → vs = xs.map V.int
  | [], [], _ => rfl
  | _ :: _, _ :: _, a => by rw [List.map_cons, a.1, All2.ints a.2]
  | [], _ :: _, a => a.elim
  | _ :: _, [], a => a.elim
theorem All2.ofInts : ∀ (xs : List Int), All2 (fun v x => v = V.int x) (xs.map V.int) xs
  | [] => trivial
  | x :: xs => ⟨rfl, All2.ofInts xs⟩
end

/-! ### how data lie in the heap -/
/-- a kind of value that never changes: by the heap of what is settled -/
structure R (α : Type) where
  rep : Fg → Hp → V → α → Prop
  up : ∀ {K : Fg} {F F' : Hp} {v : V} {x : α}, Same F F' → rep K F v x → rep K F' v x
/-- what stands at an address of one's own -/
structure Ob (α : Type) where
  rep : Fg → Hp → Addr → HO → α → Prop
  up : ∀ {K : Fg} {F F' : Hp} {p : Addr} {v : HO} {x : α}, Same F F' → rep K F p v x → rep K F' p v x
theorem sqT_up {K : Fg} {H H' : Hp} {a : Addr} {xs : List V} (e : Same H H') (h : SqT K H a xs) : SqT K H' a xs := by
  rcases h with (h | ⟨o, h⟩) | h
  · exact .inl (.inl (e _ _ h))
  · exact .inl (.inr ⟨o, e _ _ h⟩)
  · exact .inr h
def rI : R Int := ⟨fun _ _ v x => v = .int x, fun _ h => h⟩
def rB : R Bool := ⟨fun _ _ v x => v = .bl x, fun _ h => h⟩
def rS : R Str := ⟨fun _ _ v x => v = .str x, fun _ h => h⟩
def rN : R Unit := ⟨fun _ _ v _ => v = .non, fun _ h => h⟩
/-- None or a thing -/
def rO {α : Type} (r : R α) : R (Option α) := ⟨fun K F v x => match x with
  | none => v = .non
  | some y => v ≠ .non ∧ r.rep K F v y, fun {_ _ _ _ x} e h => by
    cases x with
    | none => exact h
    | some y => exact ⟨h.1, r.up e h.2⟩⟩
/-- tuples of two, three, four; of any length, all of one kind -/
def rP {α β : Type} (r : R α) (q : R β) : R (α × β) := ⟨fun K F v x => ∃ a va vb, v = .ref a ∧ SqT K F a [va, vb] ∧ r.rep K F va x.1 ∧ q.rep K F vb x.2,
  fun e ⟨a, va, vb, h1, h2, h3, h4⟩ => ⟨a, va, vb, h1, sqT_up e h2, r.up e h3, q.up e h4⟩⟩
def rP3 {α β γ : Type} (r : R α) (q : R β) (p : R γ) : R (α × β × γ) := ⟨fun K F v x => ∃ a va vb vc, v = .ref a ∧ SqT K F a [va, vb, vc] ∧ r.rep K F va x.1 ∧ q.rep K F vb x.2.1 ∧ p.rep K F vc x.2.2,
  fun e ⟨a, va, vb, vc, h1, h2, h3, h4, h5⟩ => ⟨a, va, vb, vc, h1, sqT_up e h2, r.up e h3, q.up e h4, p.up e h5⟩⟩
def rP4 {α β γ δ : Type} (r : R α) (q : R β) (p : R γ) (s : R δ) : R (α × β × γ × δ) := ⟨fun K F v x => ∃ a va vb vc vd, v = .ref a ∧ SqT K F a [va, vb, vc, vd] ∧ r.rep K F va x.1 ∧ q.rep K F vb x.2.1 ∧ p.rep K F vc x.2.2.1 ∧ s.rep K F vd x.2.2.2,
  fun e ⟨a, va, vb, vc, vd, h1, h2, h3, h4, h5, h6⟩ => ⟨a, va, vb, vc, vd, h1, sqT_up e h2, r.up e h3, q.up e h4, p.up e h5, s.up e h6⟩⟩
def rT {α : Type} (r : R α) : R (List α) := ⟨fun K F v xs => ∃ a vs, v = .ref a ∧ SqT K F a vs ∧ vs.length ≤ sizeLine ∧ All2 (r.rep K F) vs xs,
  fun e ⟨a, vs, h1, h2, h3, h4⟩ => ⟨a, vs, h1, sqT_up e h2, h3, All2.imp (fun _ _ h => r.up e h) h4⟩⟩
/-- a list that nobody changes any more -/
def rL {α : Type} (r : R α) : R (List α) := ⟨fun K F v xs => ∃ a vs, v = .ref a ∧ F a = some (.lst vs) ∧ vs.length ≤ sizeLine ∧ All2 (r.rep K F) vs xs,
  fun e ⟨a, vs, h1, h2, h3, h4⟩ => ⟨a, vs, h1, e _ _ h2, h3, All2.imp (fun _ _ h => r.up e h) h4⟩⟩
/-- the script -/
def rZ : R (List Int) := ⟨fun K F v xs => ∃ a, v = .ref a ∧ SqL K F a (xs.map V.int) ∧ xs.length ≤ 63, fun e ⟨a, h1, h2, h3⟩ => ⟨a, h1, Same.seq e h2, h3⟩⟩
/-- a list of one's own -/
def oL {α : Type} (r : R α) : Ob (List α) := ⟨fun K F _ o xs => ∃ vs, o = .lst vs ∧ vs.length ≤ sizeLine ∧ All2 (r.rep K F) vs xs,
  fun e ⟨vs, h1, h2, h3⟩ => ⟨vs, h1, h2, All2.imp (fun _ _ h => r.up e h) h3⟩⟩

/-! ### the state -/
/-- what grows while an expression runs: the whole heap, and the part of it that is settled -/
structure Ext (F H F' H' : Hp) : Prop where
  h : Same H H'
  f : Same F F'
  fh : Same F' H'
  fr : ∀ a o, H a = some o → F' a = F a
theorem Ext.refl {F H : Hp} (e : Same F H) : Ext F H F H := ⟨Same.refl H, Same.refl F, e, fun _ _ _ => rfl⟩
theorem Ext.trans {F H F1 H1 F2 H2 : Hp} (a : Ext F H F1 H1) (b : Ext F1 H1 F2 H2) : Ext F H F2 H2 :=
  ⟨a.h.trans b.h, a.f.trans b.f, b.fh, fun p o e => (b.fr p o (a.h p o e)).trans (a.fr p o e)⟩
theorem Same.upd {H : Hp} {p : Addr} {o : HO} (h : H p = none) : Same H (upd H p o) := fun b u e => by
  rw [upd_ne (ne_of_none e h)]; exact e
/-- a new thing, settled at once -/
theorem Ext.new {F H : Hp} {p : Addr} {o : HO} (e : Same F H) (h : H p = none) : Ext F H (upd F p o) (upd H p o) := by
  have hf : F p = none := e.free h
  refine ⟨Same.upd h, Same.upd hf, fun b u q => ?_, fun b u q => ?_⟩
  · by_cases hb : b = p
    · subst hb; rw [upd_same] at q ⊢; exact q
    · rw [upd_ne hb] at q ⊢; exact e _ _ q
  · rw [upd_ne (ne_of_none q h)]
/-- a new thing of one's own -/
theorem Ext.own {F H : Hp} {p : Addr} {o : HO} (e : Same F H) (h : H p = none) : Ext F H F (upd H p o) :=
  ⟨Same.upd h, Same.refl F, fun b u q => Same.upd h b u (e b u q), fun _ _ _ => rfl⟩
/-- .. is settled afterwards -/
theorem Ext.settle {F H F' H' : Hp} {p : Addr} {o : HO} (a : Ext F H F' H') (h : H p = none) (h' : H' p = some o) (hf : F' p = none) : Ext F H (upd F' p o) H' :=
  ⟨a.h, a.f.trans (Same.upd hf), fun b u q => by
    by_cases hb : b = p
    · subst hb; rw [upd_same] at q; cases q; exact h'
    · rw [upd_ne hb] at q; exact a.fh b u q, fun b u q => by rw [upd_ne (ne_of_none q h)]; exact a.fr b u q⟩

inductive Sl : Type 1 where
  | no
  | sh {α : Type} (r : R α) (x : α)
  | ow {α : Type} (r : Ob α) (x : α)
  | ow2 {α : Type} (ps : Option (List V)) (r : R α) (x : List (List α))
  | rf (q : Addr)
/-- the entry's heaps -/
structure Bs where
  F : Hp
  H : Hp
def isOw : Option Sl → Bool
  | some (.ow _ _) => true
  | some (.ow2 _ _ _) => true
  | _ => false
/-- a row of a table of one's own -/
def Row2 {α : Type} (K : Fg) (B : Bs) (F H : Hp) (r : R α) (q : Addr) (xs : List α) : Prop :=
  B.H q = none ∧ F q = none ∧ ∃ vs, H q = some (.lst vs) ∧ vs.length ≤ sizeLine ∧ All2 (fun v x => r.rep K F v x) vs xs
/-- a table of one's own, of rows of one's own -/
def Rows2 {α : Type} (K : Fg) (B : Bs) (F H : Hp) (p : Addr) (ps : List V) (r : R α) (xss : List (List α)) : Prop :=
  B.H p = none ∧ F p = none ∧ H p = some (.lst ps) ∧ ps.length ≤ sizeLine ∧ (V.ref p :: ps).Nodup ∧ All2 (fun v xs => ∃ q, v = .ref q ∧ Row2 K B F H r q xs) ps xss
def SlotOk (K : Fg) (B : Bs) (F H : Hp) (o : Option (Option V)) : Sl → Prop
  | .no => True
  | .sh r x => ∃ v, o = some (some v) ∧ r.rep K F v x
  | .ow r x => ∃ p ho, o = some (some (.ref p)) ∧ B.H p = none ∧ F p = none ∧ H p = some ho ∧ r.rep K F p ho x
  | .ow2 ps r xss => ∃ p qs, o = some (some (.ref p)) ∧ (ps = none ∨ ps = some qs) ∧ Rows2 K B F H p qs r xss
  | .rf q => o = some (some (.ref q))
/-- what a slot owns -/
def foot (H : Hp) (o : Option (Option V)) (q : Addr) : Sl → Prop
  | .ow _ _ => o = some (some (.ref q))
  | .ow2 _ _ _ => ∃ p, o = some (some (.ref p)) ∧ (q = p ∨ ∃ vs, H p = some (.lst vs) ∧ V.ref q ∈ vs)
  | _ => False
theorem foot_no {H : Hp} {o : Option (Option V)} {q : Addr} {s : Sl} (h : isOw (some s) = false) : ¬ foot H o q s := by
  cases s <;> first | exact fun z => z | cases h
structure At (K : Fg) (B : Bs) (Γ : List Sl) (F H : Hp) (σ : St) : Prop where
  h0 : Same B.H H
  f0 : Same B.F F
  fh : Same F H
  fr : ∀ a o, B.H a = some o → F a = B.F a
  len : σ.length = Γ.length
  sl : ∀ (i : Nat) (s : Sl), Γ[i]? = some s → SlotOk K B F H σ[i]? s
  sep : ∀ (i j : Nat) (s t : Sl) (q : Addr), i ≠ j → Γ[i]? = some s → Γ[j]? = some t → foot H σ[i]? q s → foot H σ[j]? q t → False
theorem All2.mem {β : Type} {p : V → β → Prop} : ∀ {as : List V} {bs : List β}, All2 p as bs → ∀ {a : V}, a ∈ as → ∃ b, p a b
  | [], _, _, _, m => by cases m
  | _ :: _, [], h, _, _ => h.elim
  | _ :: _, _ :: _, h, _, m => by
    rcases List.mem_cons.mp m with e | e
    · subst e; exact ⟨_, h.1⟩
    · exact All2.mem h.2 e
theorem All2.impM {β : Type} {p p' : V → β → Prop} : ∀ {as : List V} {bs : List β}, All2 p as bs → (∀ a, a ∈ as → ∀ b, p a b → p' a b) → All2 p' as bs
  | [], [], _, _ => trivial
  | [], _ :: _, h, _ => h.elim
  | _ :: _, [], h, _ => h.elim
  | _ :: _, _ :: _, h, k => ⟨k _ (List.mem_cons_self ..) _ h.1, All2.impM h.2 fun a m b z => k a (List.mem_cons_of_mem _ m) b z⟩
section
variable {K : Fg} {B : Bs} {Γ : List Sl} {F H F' H' : Hp} {σ : St}
theorem foot_in {o : Option (Option V)} {s : Sl} {q : Addr} (a : SlotOk K B F H o s) (f : foot H o q s) : B.H q = none ∧ F q = none ∧ ∃ ho, H q = some ho := by
  cases s with
  | no => cases f
  | sh r x => cases f
  | rf p => cases f
  | ow r x =>
    obtain ⟨p, ho, h1, h2, h3, h4, h5⟩ := a
    have f' : o = some (some (.ref q)) := f
    rw [h1] at f'; cases f'
    exact ⟨h2, h3, ho, h4⟩
  | ow2 ps r xss =>
    obtain ⟨p, qs, h1, _, h2, h3, h4, h5, h6, h7⟩ := a
    obtain ⟨p', e, f⟩ := f
    rw [h1] at e; cases e
    rcases f with f | ⟨vs, f1, f2⟩
    · subst f; exact ⟨h2, h3, _, h4⟩
    · rw [h4] at f1; cases f1
      obtain ⟨xs, q', e, g1, g2, vs, g3, _⟩ := h7.mem f2
      cases e
      exact ⟨g1, g2, _, g3⟩
/-- a slot looks only at what it owns, and at what is settled -/
theorem SlotOk.agree {o : Option (Option V)} {s : Sl} (a : SlotOk K B F H o s) (e : ∀ q, foot H o q s → H' q = H q) : SlotOk K B F H' o s := by
  cases s with
  | no => trivial
  | sh r x => exact a
  | rf q => exact a
  | ow r x => obtain ⟨p, ho, h1, h2, h3, h4, h5⟩ := a; exact ⟨p, ho, h1, h2, h3, (e p h1).trans h4, h5⟩
  | ow2 ps r xss =>
    obtain ⟨p, qs, h1, h0, h2, h3, h4, h5, h6, h7⟩ := a
    refine ⟨p, qs, h1, h0, h2, h3, (e p ⟨p, h1, .inl rfl⟩).trans h4, h5, h6, h7.impM fun v m xs ⟨q, e0, g1, g2, vs, g3, g4⟩ => ⟨q, e0, g1, g2, vs, (e q ⟨p, h1, .inr ⟨_, h4, by rw [← e0]; exact m⟩⟩).trans g3, g4⟩⟩
theorem foot_agree {o : Option (Option V)} {s : Sl} {q : Addr} (e : ∀ q, foot H o q s → H' q = H q) (f : foot H' o q s) : foot H o q s := by
  cases s with
  | no => cases f
  | sh r x => cases f
  | rf p => cases f
  | ow r x => exact f
  | ow2 ps r xss =>
    obtain ⟨p, h1, h2⟩ := f
    refine ⟨p, h1, ?_⟩
    rcases h2 with h2 | ⟨vs, h2, h3⟩
    · exact .inl h2
    · exact .inr ⟨vs, (e p ⟨p, h1, .inl rfl⟩).symm.trans h2, h3⟩
theorem foot_same {o : Option (Option V)} {s : Sl} (a : SlotOk K B F H o s) (e : Same H H') : ∀ q, foot H o q s → H' q = H q := fun q f => by
  obtain ⟨_, _, ho, h⟩ := foot_in a f
  rw [h]; exact e _ _ h
theorem SlotOk.ext {o : Option (Option V)} {s : Sl} (a : SlotOk K B F H o s) (e : Ext F H F' H') : SlotOk K B F' H' o s := by
  have a' := a.agree (foot_same a e.h)
  cases s with
  | no => trivial
  | sh r x => obtain ⟨v, h1, h2⟩ := a; exact ⟨v, h1, r.up e.f h2⟩
  | rf q => exact a
  | ow r x => obtain ⟨p, ho, h1, h2, h3, h4, h5⟩ := a; exact ⟨p, ho, h1, h2, by rw [e.fr p ho h4]; exact h3, e.h _ _ h4, r.up e.f h5⟩
  | ow2 ps r xss =>
    obtain ⟨p, qs, h1, h0, h2, h3, h4, h5, h6, h7⟩ := a
    exact ⟨p, qs, h1, h0, h2, by rw [e.fr p _ h4]; exact h3, e.h _ _ h4, h5, h6, h7.imp fun v xs ⟨q, e0, g1, g2, vs, g3, g4, g5⟩ => ⟨q, e0, g1, by rw [e.fr q _ g3]; exact g2, vs, e.h _ _ g3, g4, g5.imp fun v x z => r.up e.f z⟩⟩
theorem At.ext (a : At K B Γ F H σ) (e : Ext F H F' H') : At K B Γ F' H' σ :=
  ⟨a.h0.trans e.h, a.f0.trans e.f, e.fh, fun p o q => (e.fr p o (a.h0 p o q)).trans (a.fr p o q), a.len, fun i s h => (a.sl i s h).ext e, fun i j s t q n hs ht f g => a.sep i j s t q n hs ht (foot_agree (foot_same (a.sl i s hs) e.h) f) (foot_agree (foot_same (a.sl j t ht) e.h) g)⟩
theorem get_set {α : Type 1} {l : List α} {i j : Nat} {x y : α} (h : (l.set i x)[j]? = some y) : (i = j ∧ x = y ∧ i < l.length) ∨ (i ≠ j ∧ l[j]? = some y) := by
  by_cases e : i = j
  · subst e
    by_cases hl : i < l.length
    · rw [List.getElem?_set_self hl] at h; cases h; exact .inl ⟨rfl, rfl, hl⟩
    · rw [List.getElem?_eq_none (by rw [List.length_set]; omega)] at h; cases h
  · rw [List.getElem?_set_ne e] at h; exact .inr ⟨e, h⟩
/-- a slot that owns nothing is put -/
theorem At.setN {i : Nat} {s0 : Sl} {o : Option V} (a : At K B Γ F H σ) (h : SlotOk K B F H (some o) s0) (n : isOw (some s0) = false) : At K B (Γ.set i s0) F H (σ.set i o) := by
  refine ⟨a.h0, a.f0, a.fh, a.fr, by rw [List.length_set, List.length_set]; exact a.len, fun j s hj => ?_, fun j k s t p hn h1 h2 h3 h4 => ?_⟩
  · rcases get_set hj with ⟨rfl, rfl, hl⟩ | ⟨e, hj⟩
    · rw [List.getElem?_set_self (by rw [a.len]; exact hl)]; exact h
    · rw [List.getElem?_set_ne e]; exact a.sl j s hj
  · rcases get_set h1 with ⟨rfl, rfl, _⟩ | ⟨e1, h1⟩
    · exact foot_no n h3
    · rcases get_set h2 with ⟨rfl, rfl, _⟩ | ⟨e2, h2⟩
      · exact foot_no n h4
      · rw [List.getElem?_set_ne e1] at h3
        rw [List.getElem?_set_ne e2] at h4
        exact a.sep j k s t p hn h1 h2 h3 h4
/-- a settled value is put into a slot -/
theorem At.put {i : Nat} {α : Type} {r : R α} {x : α} {v : V} (a : At K B Γ F H σ) (h : r.rep K F v x) : At K B (Γ.set i (.sh r x)) F H (σ.set i (some v)) := a.setN ⟨v, rfl, h⟩ rfl
theorem At.clear (a : At K B Γ F H σ) (i : Nat) (o : Option V) : At K B (Γ.set i .no) F H (σ.set i o) := a.setN trivial rfl
/-- something new of one's own is put into a slot -/
theorem At.putG {F1 H1 : Hp} {i : Nat} {s0 : Sl} {p : Addr} (a : At K B Γ F1 H1 σ) (e : Ext F1 H1 F H) (h : SlotOk K B F H (some (some (.ref p))) s0) (n : ∀ q, foot H (some (some (.ref p))) q s0 → H1 q = none) : At K B (Γ.set i s0) F H (σ.set i (some (.ref p))) := by
  have a' := a.ext e
  have old : ∀ (j : Nat) (t : Sl) (q : Addr), Γ[j]? = some t → foot H σ[j]? q t → H1 q = none → False := fun j t q ht f z => by
    obtain ⟨_, _, ho, h⟩ := foot_in (a.sl j t ht) (foot_agree (foot_same (a.sl j t ht) e.h) f)
    rw [z] at h; cases h
  refine ⟨a'.h0, a'.f0, a'.fh, a'.fr, by rw [List.length_set, List.length_set]; exact a.len, fun j s hj => ?_, fun j k s t q hn h1 h2 h3 h4 => ?_⟩
  · rcases get_set hj with ⟨rfl, rfl, hl⟩ | ⟨e, hj⟩
    · rw [List.getElem?_set_self (by rw [a.len]; exact hl)]; exact h
    · rw [List.getElem?_set_ne e]; exact a'.sl j s hj
  · rcases get_set h1 with ⟨rfl, rfl, hl⟩ | ⟨e1, h1⟩
    · rw [List.getElem?_set_self (by rw [a.len]; exact hl)] at h3
      rcases get_set h2 with ⟨e2, _, _⟩ | ⟨e2, h2⟩
      · exact hn e2
      · rw [List.getElem?_set_ne e2] at h4
        exact old k t q h2 h4 (n q h3)
    · rw [List.getElem?_set_ne e1] at h3
      rcases get_set h2 with ⟨rfl, rfl, hl⟩ | ⟨e2, h2⟩
      · rw [List.getElem?_set_self (by rw [a.len]; exact hl)] at h4
        exact old j s q h1 h3 (n q h4)
      · rw [List.getElem?_set_ne e2] at h4
        exact a'.sep j k s t q hn h1 h2 h3 h4
/-- a new thing of one's own is put into a slot -/
theorem At.putO {F1 H1 : Hp} {i : Nat} {α : Type} {r : Ob α} {x : α} {p : Addr} {ho : HO} (a : At K B Γ F1 H1 σ) (e : Ext F1 H1 F H) (n : H1 p = none) (hf : F p = none) (hp : H p = some ho) (h : r.rep K F p ho x) : At K B (Γ.set i (.ow r x)) F H (σ.set i (some (.ref p))) :=
  a.putG e ⟨p, ho, rfl, a.h0.free n, hf, hp, h⟩ fun q f => by
    have f' : some (some (V.ref p)) = some (some (V.ref q)) := f
    cases f'; exact n
/-- what a slot owns is changed -/
theorem At.gen {i : Nat} {s s' : Sl} (a : At K B Γ F H σ) (hi : Γ[i]? = some s) (keep : ∀ q, ¬ foot H σ[i]? q s → H' q = H q) (ok : SlotOk K B F H' σ[i]? s')
    (ft : ∀ q, foot H' σ[i]? q s' → foot H σ[i]? q s ∨ ∀ j t, i ≠ j → Γ[j]? = some t → ¬ foot H σ[j]? q t) : At K B (Γ.set i s') F H' σ := by
  have ag : ∀ (j : Nat) (t : Sl), i ≠ j → Γ[j]? = some t → ∀ q, foot H σ[j]? q t → H' q = H q := fun j t n hj q f => keep q fun g => a.sep i j s t q n hi hj g f
  have cl : ∀ (j : Nat) (t : Sl) (q : Addr), i ≠ j → Γ[j]? = some t → foot H' σ[i]? q s' → foot H' σ[j]? q t → False := fun j t q n hj f g => by
    have g' := foot_agree (ag j t n hj) g
    rcases ft q f with f | f
    · exact a.sep i j s t q n hi hj f g'
    · exact f j t n hj g'
  refine ⟨fun b o q => ?_, a.f0, fun b o q => ?_, a.fr, by rw [List.length_set]; exact a.len, fun j t hj => ?_, fun j k t u q hn h1 h2 h3 h4 => ?_⟩
  · rw [keep b fun f => by rw [(foot_in (a.sl i s hi) f).1] at q; cases q]; exact a.h0 b o q
  · rw [keep b fun f => by rw [(foot_in (a.sl i s hi) f).2.1] at q; cases q]; exact a.fh b o q
  · rcases get_set hj with ⟨rfl, rfl, _⟩ | ⟨e, hj⟩
    · exact ok
    · exact (a.sl j t hj).agree (ag j t e hj)
  · rcases get_set h1 with ⟨rfl, rfl, _⟩ | ⟨e1, h1⟩
    · rcases get_set h2 with ⟨e2, _, _⟩ | ⟨e2, h2⟩
      · exact hn e2
      · exact cl k u q e2 h2 h3 h4
    · rcases get_set h2 with ⟨rfl, rfl, _⟩ | ⟨e2, h2⟩
      · exact cl j t q e1 h1 h4 h3
      · exact a.sep j k t u q hn h1 h2 (foot_agree (ag j t e1 h1) h3) (foot_agree (ag k u e2 h2) h4)
/-- a thing of one's own is changed where it stands -/
theorem At.chg {i : Nat} {α β : Type} {r : Ob α} {r2 : Ob β} {x : α} {y : β} {p : Addr} {ho : HO} (a : At K B Γ F H σ) (hi : Γ[i]? = some (.ow r x)) (hp : σ[i]? = some (some (.ref p))) (h : r2.rep K F p ho y) : At K B (Γ.set i (.ow r2 y)) F (upd H p ho) σ := by
  obtain ⟨p', ho', e1, e2, e3, e4, e5⟩ := a.sl i _ hi
  rw [hp] at e1; cases e1
  exact a.gen hi (fun q n => upd_ne fun e => n (by subst e; exact hp)) ⟨p, ho, hp, e2, e3, upd_same, h⟩ fun q f => .inl f
/-- what a slot owns is settled -/
theorem At.settle {i : Nat} {s s' : Sl} (a : At K B Γ F H σ) (hi : Γ[i]? = some s) (hF : ∀ q, ¬ foot H σ[i]? q s → F' q = F q) (f1 : Same F F') (fh : Same F' H) (ok : SlotOk K B F' H σ[i]? s') (n : isOw (some s') = false) : At K B (Γ.set i s') F' H σ := by
  refine ⟨a.h0, a.f0.trans f1, fh, fun c u q => ?_, by rw [List.length_set]; exact a.len, fun j t hj => ?_, fun j k t u q hn h1 h2 h3 h4 => ?_⟩
  · rw [hF c fun f => by rw [(foot_in (a.sl i s hi) f).1] at q; cases q]; exact a.fr c u q
  · rcases get_set hj with ⟨rfl, rfl, _⟩ | ⟨e, hj⟩
    · exact ok
    · have z := a.sl j t hj
      have fn : ∀ q, foot H σ[j]? q t → F' q = F q := fun q f => hF q fun g => a.sep i j s t q e hi hj g f
      cases t with
      | no => trivial
      | rf q => exact z
      | sh r' x' => obtain ⟨v, q1, q2⟩ := z; exact ⟨v, q1, r'.up f1 q2⟩
      | ow r' x' =>
        obtain ⟨p', ho', q1, q2, q3, q4, q5⟩ := z
        exact ⟨p', ho', q1, q2, (fn p' q1).trans q3, q4, r'.up f1 q5⟩
      | ow2 ps r' xss =>
        obtain ⟨p, qs, h1, h0, h2, h3, h4, h5, h6, h7⟩ := z
        exact ⟨p, qs, h1, h0, h2, (fn p ⟨p, h1, .inl rfl⟩).trans h3, h4, h5, h6, h7.impM fun v m xs ⟨q, e0, g1, g2, vs, g3, g4, g5⟩ => ⟨q, e0, g1, (fn q ⟨p, h1, .inr ⟨_, h4, by rw [← e0]; exact m⟩⟩).trans g2, vs, g3, g4, g5.imp fun v x z => r'.up f1 z⟩⟩
  · rcases get_set h1 with ⟨rfl, rfl, _⟩ | ⟨e1, h1⟩
    · exact foot_no n h3
    · rcases get_set h2 with ⟨rfl, rfl, _⟩ | ⟨e2, h2⟩
      · exact foot_no n h4
      · exact a.sep j k t u q hn h1 h2 h3 h4
end

/-! ### forgetting -/
inductive Wk : List Sl → List Sl → Prop where
  | n : Wk [] []
  | s {a : Sl} {Γ Δ : List Sl} (h : Wk Γ Δ) : Wk (a :: Γ) (a :: Δ)
  | d {a : Sl} {Γ Δ : List Sl} (h : Wk Γ Δ) : Wk (a :: Γ) (.no :: Δ)
  | h {α : Type} {ps : Option (List V)} {r : R α} {x : List (List α)} {Γ Δ : List Sl} (h : Wk Γ Δ) : Wk (.ow2 ps r x :: Γ) (.ow2 none r x :: Δ)
theorem Wk.get {Γ Δ : List Sl} (w : Wk Γ Δ) : ∀ {i : Nat} {s : Sl}, Δ[i]? = some s → s = .no ∨ Γ[i]? = some s ∨ ∃ (α : Type) (ps : Option (List V)) (r : R α) (x : List (List α)), s = .ow2 none r x ∧ Γ[i]? = some (.ow2 ps r x) := by
  induction w with
  | n => intro i s h; simp at h
  | s _ ih =>
    intro i s h
    cases i with
    | zero => exact .inr (.inl (by simpa using h))
    | succ i => simpa using ih (i := i) (by simpa using h)
  | d _ ih =>
    intro i s h
    cases i with
    | zero => exact .inl (by simpa using h.symm)
    | succ i => simpa using ih (i := i) (by simpa using h)
  | h _ ih =>
    intro i s h
    cases i with
    | zero => exact .inr (.inr ⟨_, _, _, _, by simpa using h.symm, rfl⟩)
    | succ i => simpa using ih (i := i) (by simpa using h)
theorem Wk.foot {Γ Δ : List Sl} (w : Wk Γ Δ) {i : Nat} {s : Sl} {H : Hp} {o : Option (Option V)} {q : Addr} (h : Δ[i]? = some s) (f : foot H o q s) : ∃ s', Γ[i]? = some s' ∧ T.foot H o q s' := by
  rcases w.get h with e | e | ⟨α, ps, r, x, e1, e2⟩
  · subst e; cases f
  · exact ⟨s, e, f⟩
  · subst e1; exact ⟨_, e2, f⟩
theorem Wk.len {Γ Δ : List Sl} (w : Wk Γ Δ) : Γ.length = Δ.length := by
  induction w with
  | n => rfl
  | s _ ih => simp [ih]
  | d _ ih => simp [ih]
  | h _ ih => simp [ih]
theorem Wk.refl : ∀ (Γ : List Sl), Wk Γ Γ
  | [] => .n
  | _ :: Γ => .s (Wk.refl Γ)
theorem At.wk {K : Fg} {B : Bs} {Γ Δ : List Sl} {F H : Hp} {σ : St} (a : At K B Γ F H σ) (w : Wk Γ Δ) : At K B Δ F H σ := by
  refine ⟨a.h0, a.f0, a.fh, a.fr, a.len.trans w.len, fun i s h => ?_, fun i j s t q hn h1 h2 h3 h4 => ?_⟩
  · rcases w.get h with e | e | ⟨α, ps, r, x, e1, e2⟩
    · subst e; trivial
    · exact a.sl i s e
    · subst e1
      obtain ⟨p, qs, q1, _, q2⟩ := a.sl i _ e2
      exact ⟨p, qs, q1, .inl rfl, q2⟩
  · obtain ⟨s', g1, g2⟩ := w.foot (H := H) (o := σ[i]?) (q := q) h1 h3
    obtain ⟨t', g3, g4⟩ := w.foot (H := H) (o := σ[j]?) (q := q) h2 h4
    exact a.sep i j s' t' q hn g1 g3 g2 g4

/-! ### the context -/
structure Cc where
  P : Program
  w : World
  K : Fg
  mg : Str → Option Value
  base : Heap
  N : List Str
  sc : Scope
  k : Nat
  fnx : Str → Bool
structure Is (C : Cc) (X : Cx) : Prop where
  P : X.prog = C.P
  w : X.w = C.w
  K : X.K = C.K
  mg : X.mg = C.mg
  base : X.base = C.base
  N : X.N = C.N
  nd : C.N.Nodup
  sc : X.env.scope = C.sc
  room : Room C.k X.A
  calm : X.calm = true
  fnx : X.fn = C.fnx
  xe : X.xe = fun _ _ => False

/-! ### canonical readings -/
def tE (X : Cx) (e : Expr) : TE := fun σ H Q => ∀ (pins : List (Addr × Obj)) (s : Shared), Inv X pins σ H s → wpAny (model X.prog X.w) X.A (eval e X.env) (EP X pins σ Q) X.xe s
theorem pe_self {X : Cx} {e : Expr} : PE X e (tE X e) := ⟨fun pins s _ _ _ I h => h pins s I⟩
theorem tE_of {X : Cx} {e : Expr} {t : TE} {σ : St} {H : Hp} {Q : VK} (h : PE X e t) (q : t σ H Q) : tE X e σ H Q := fun pins s I => h.run pins s σ H Q I q
def tT (X : Cx) (e : Expr) : TT := fun σ H Q => ∀ (whole : Sem Value) (pins : List (Addr × Obj)) (s : Shared), whole = eval e X.env → Inv X pins σ H s → wpAny (model X.prog X.w) X.A (isTrue e X.env whole) (TP X pins σ Q) X.xe s
theorem pt_self {X : Cx} {e : Expr} : PT X e (tT X e) := ⟨fun pins s _ _ _ I h => h _ pins s rfl I⟩
theorem tT_of {X : Cx} {e : Expr} {t : TT} {σ : St} {H : Hp} {Q : Bool → Hp → Prop} (h : PT X e t) (q : t σ H Q) : tT X e σ H Q := fun _ pins s e I => e ▸ h.run pins s σ H Q I q
def tW (X : Cx) (e : Expr) : TT := fun σ H Q => ∀ (whole : Sem Value) (pins : List (Addr × Obj)) (s : Shared), Inv X pins σ H s → wpAny (model X.prog X.w) X.A (isTrue e X.env whole) (TP X pins σ Q) X.xe s
theorem pw_self {X : Cx} {e : Expr} : PW X e (tW X e) := ⟨fun wh pins s _ _ _ I h => h wh pins s I⟩
theorem tW_of {X : Cx} {e : Expr} {t : TT} {σ : St} {H : Hp} {Q : Bool → Hp → Prop} (h : PW X e t) (q : t σ H Q) : tW X e σ H Q := fun wh pins s I => h.run wh pins s σ H Q I q
def tA (X : Cx) (es : List Expr) : TA := fun σ H Q => ∀ (pos : Pos) (pins : List (Addr × Obj)) (s : Shared), Inv X pins σ H s → wpAny (model X.prog X.w) X.A (spliced (backTo pos (starEach es X.env))) (AP X pins σ Q) X.xe s
theorem pa_self {X : Cx} {es : List Expr} : PA X es (tA X es) := ⟨fun pos pins s _ _ _ I h => h pos pins s I⟩
theorem tA_of {X : Cx} {es : List Expr} {t : TA} {σ : St} {H : Hp} {Q : List V → Hp → Prop} (h : PA X es t) (q : t σ H Q) : tA X es σ H Q := fun pos pins s I => h.run pos pins s σ H Q I q
def tS (X : Cx) (sts : List Stmt) : TS := fun D σ H => ∀ (pins : List (Addr × Obj)) (s : Shared), Inv X pins σ H s → wpAny (model X.prog X.w) X.A (execs sts X.env) (SP X pins D) X.xe s
theorem pss_self {X : Cx} {sts : List Stmt} : PSs X sts (tS X sts) := ⟨fun pins s _ _ _ I h => h pins s I⟩
theorem tS_of {X : Cx} {sts : List Stmt} {t : TS} {D : Ends} {σ : St} {H : Hp} (h : PSs X sts t) (q : t D σ H) : tS X sts D σ H := fun pins s I => h.run pins s σ H D I q
end L2.T
set_option Elab.async false
set_option linter.all false
set_option maxRecDepth 100000
/-! Expressions. -/
namespace L2.T
open PySem PySem.Spec PyProof.Rows

/-! ### how a value is told -/
structure Vp (α : Type) where
  p : Fg → Hp → Hp → V → α → Prop
  up : ∀ {K : Fg} {F H F' H' : Hp} {v : V} {x : α}, Ext F H F' H' → p K F H v x → p K F' H' v x
def vS {α : Type} (r : R α) : Vp α := ⟨fun K F _ v x => r.rep K F v x, fun e h => r.up e.f h⟩
/-- a list (one's own too) or a tuple, to be read -/
def vQ {α : Type} (r : R α) : Vp (List α) := ⟨fun K F H v xs => ∃ a vs, v = .ref a ∧ (H a = some (.lst vs) ∨ SqT K F a vs) ∧ vs.length ≤ sizeLine ∧ All2 (r.rep K F) vs xs,
  fun e ⟨a, vs, h1, h2, h3, h4⟩ => ⟨a, vs, h1, h2.elim (fun z => .inl (e.h _ _ z)) (fun z => .inr (sqT_up e.f z)), h3, All2.imp (fun _ _ h => r.up e.f h) h4⟩⟩
/-- a list alone -/
def vL {α : Type} (r : R α) : Vp (List α) := ⟨fun K F H v xs => ∃ a vs, v = .ref a ∧ H a = some (.lst vs) ∧ vs.length ≤ sizeLine ∧ All2 (r.rep K F) vs xs,
  fun e ⟨a, vs, h1, h2, h3, h4⟩ => ⟨a, vs, h1, e.h _ _ h2, h3, All2.imp (fun _ _ h => r.up e.f h) h4⟩⟩

def b2 {α β γ : Type} (m : Option α) (n : Option β) (g : α → β → Option γ) : Option γ := m.bind fun x => n.bind fun y => g x y
theorem b2_some {α β γ : Type} {m : Option α} {n : Option β} {g : α → β → Option γ} {z : γ} (h : b2 m n g = some z) : ∃ x y, m = some x ∧ n = some y ∧ g x y = some z := by
  unfold b2 at h
  cases m with
  | none => cases h
  | some x =>
    cases n with
    | none => cases h
    | some y => exact ⟨x, y, rfl, rfl, h⟩
theorem bd_some {α β : Type} {m : Option α} {g : α → Option β} {z : β} (h : m.bind g = some z) : ∃ x, m = some x ∧ g x = some z := by
  cases m with
  | none => cases h
  | some x => exact ⟨x, rfl, h⟩

section
variable (C : Cc) (B : Bs) (Γ : List Sl)
def Ex {α : Type} (e : Expr) (M : Vp α) (m : Option α) : Prop :=
  ∀ X, Is C X → ∀ (σ : St) (F H : Hp) (Q : VK) (x : α), At C.K B Γ F H σ → m = some x → (∀ v F' H', Ext F H F' H' → M.p C.K F' H' v x → Q v H') → tE X e σ H Q
/-- a new thing of one's own -/
def ExF {α : Type} (e : Expr) (r : Ob α) (m : Option α) : Prop :=
  ∀ X, Is C X → ∀ (σ : St) (F H : Hp) (Q : VK) (x : α), At C.K B Γ F H σ → m = some x → (∀ p ho F' H', Ext F H F' H' → H p = none → F' p = none → H' p = some ho → r.rep C.K F' p ho x → Q (.ref p) H') → tE X e σ H Q
/-- a test -/
def Tt (e : Expr) (m : Option Bool) : Prop :=
  ∀ X, Is C X → ∀ (σ : St) (F H : Hp) (Q : Bool → Hp → Prop) (x : Bool), At C.K B Γ F H σ → m = some x → (∀ F' H', Ext F H F' H' → Q x H') → tT X e σ H Q
/-- a chain of and, or as a test -/
def Tw (e : Expr) (m : Option Bool) : Prop :=
  ∀ X, Is C X → ∀ (σ : St) (F H : Hp) (Q : Bool → Hp → Prop) (x : Bool), At C.K B Γ F H σ → m = some x → (∀ F' H', Ext F H F' H' → Q x H') → tW X e σ H Q
end
/-- arguments -/
structure Ar (τ : Type) where
  p : Fg → Hp → Hp → List V → τ → Prop
  up : ∀ {K : Fg} {F H F' H' : Hp} {v : List V} {x : τ}, Ext F H F' H' → p K F H v x → p K F' H' v x
def aN : Ar Unit := ⟨fun _ _ _ vs _ => vs = [], fun _ h => h⟩
def aC {α τ : Type} (M : Vp α) (a : Ar τ) : Ar (α × τ) := ⟨fun K F H vs t => ∃ v ws, vs = v :: ws ∧ M.p K F H v t.1 ∧ a.p K F H ws t.2, fun e ⟨v, ws, h1, h2, h3⟩ => ⟨v, ws, h1, M.up e h2, a.up e h3⟩⟩
section
variable (C : Cc) (B : Bs) (Γ : List Sl)
def Ea {τ : Type} (es : List Expr) (a : Ar τ) (m : Option τ) : Prop :=
  ∀ X, Is C X → ∀ (σ : St) (F H : Hp) (Q : List V → Hp → Prop) (x : τ), At C.K B Γ F H σ → m = some x → (∀ vs F' H', Ext F H F' H' → a.p C.K F' H' vs x → Q vs H') → tA X es σ H Q
end

section
variable {C : Cc} {B : Bs} {Γ : List Sl} {α β γ τ : Type} {e a b : Expr} {es : List Expr} {pos : Pos}
theorem vis_of {X : Cx} (h : Is C X) {x : Str} (v : Vis C.sc x) : Vis X.env.scope x := by rw [h.sc]; exact v
theorem gl_of {X : Cx} (h : Is C X) {x : Str} (v : C.sc.names.lookup x = some .globalImplicit) : Gl X x := by
  show X.env.scope.names.lookup x = _
  rw [h.sc]; exact v

/-! ### names, constants -/
theorem ex_var (i : Nat) {r : R α} {x : α} {n : Str} (hi : Γ[i]? = some (.sh r x) := by rfl) (hN : C.N[i]? = some n := by rfl) (hv : Vis C.sc n := by first | exact Or.inl rfl | exact Or.inr (Or.inl rfl) | exact Or.inr (Or.inr rfl))
    (hd : (n == ("__debug__" : Str)) = false := by decide) (hcd : (n == ("__classdict__" : Str)) = false := by decide) : Ex C B Γ (.Name n pos) (vS r) (some x) := by
  intro X hX σ F H Q y a hm k
  cases hm
  obtain ⟨v, h1, h2⟩ := a.sl i _ hi
  exact tE_of (pe_var (by rw [hX.N]; exact hN) (vis_of hX hv) hd hcd) ⟨v, h1, k v F H (Ext.refl a.fh) h2⟩
/-- a list of one's own, to be read -/
theorem ex_varO (i : Nat) {r : R α} {x : List α} {n : Str} (hi : Γ[i]? = some (.ow (oL r) x) := by rfl) (hN : C.N[i]? = some n := by rfl) (hv : Vis C.sc n := by first | exact Or.inl rfl | exact Or.inr (Or.inl rfl) | exact Or.inr (Or.inr rfl))
    (hd : (n == ("__debug__" : Str)) = false := by decide) (hcd : (n == ("__classdict__" : Str)) = false := by decide) : Ex C B Γ (.Name n pos) (vL r) (some x) := by
  intro X hX σ F H Q y a hm k
  cases hm
  obtain ⟨p, ho, h1, h2, h3, h4, vs, rfl, h5, h6⟩ := a.sl i _ hi
  exact tE_of (pe_var (by rw [hX.N]; exact hN) (vis_of hX hv) hd hcd) ⟨.ref p, h1, k _ F H (Ext.refl a.fh) ⟨p, vs, rfl, h4, h5, h6⟩⟩
theorem ex_int {i j : _} : Ex C B Γ (.Constant (.int i) j pos) (vS rI) (some i) := by
  intro X hX σ F H Q y a hm k
  cases hm
  exact tE_of pe_int (k _ F H (Ext.refl a.fh) rfl)
theorem ex_bl {i j : _} : Ex C B Γ (.Constant (.bool i) j pos) (vS rB) (some i) := by
  intro X hX σ F H Q y a hm k
  cases hm
  exact tE_of pe_bl (k _ F H (Ext.refl a.fh) rfl)
theorem ex_str {i j : _} : Ex C B Γ (.Constant (.str i) j pos) (vS rS) (some i) := by
  intro X hX σ F H Q y a hm k
  cases hm
  exact tE_of pe_str (k _ F H (Ext.refl a.fh) rfl)
theorem ex_non {j : _} {r : R α} : Ex C B Γ (.Constant .none j pos) (vS (rO r)) (some none) := by
  intro X hX σ F H Q y a hm k
  cases hm
  exact tE_of pe_non (k _ F H (Ext.refl a.fh) rfl)
theorem ex_unit {j : _} : Ex C B Γ (.Constant .none j pos) (vS rN) (some ()) := by
  intro X hX σ F H Q y a hm k
  exact tE_of pe_non (k _ F H (Ext.refl a.fh) rfl)
/-- a constant of the module -/
theorem ex_glob {r : R α} {c : α} {n : Str} {v : V} {u : Value} (hg : C.sc.names.lookup n = some .globalImplicit) (hm : C.mg n = some u) (hv : RelV v u) (hr : ∀ F, r.rep C.K F v c) (hd : (n == ("__debug__" : Str)) = false := by decide) : Ex C B Γ (.Name n pos) (vS r) (some c) := by
  intro X hX σ F H Q y a hq k
  cases hq
  exact tE_of (pe_glob (gl_of hX hg) (by rw [hX.mg]; exact hm) hv hd) (k _ F H (Ext.refl a.fh) (hr F))

/-! ### from one telling to another -/
theorem ex_to {M N : Vp α} {m : Option α} (h : Ex C B Γ e M m) (t : ∀ K F H v x, Same F H → M.p K F H v x → N.p K F H v x) : Ex C B Γ e N m := by
  intro X hX σ F H Q y a hm k
  exact h X hX σ F H Q y a hm fun v F' H' x q => k v F' H' x (t _ _ _ _ _ x.fh q)
theorem ex_map {M : Vp α} {N : Vp β} {m : Option α} (f : α → β) (h : Ex C B Γ e M m) (t : ∀ K F H v x, Same F H → M.p K F H v x → N.p K F H v (f x)) : Ex C B Γ e N (m.map f) := by
  intro X hX σ F H Q y a hm k
  cases m with
  | none => cases hm
  | some z =>
    cases hm
    exact h X hX σ F H Q z a rfl fun v F' H' x q => k v F' H' x (t _ _ _ _ _ x.fh q)
theorem ex_q {r : R α} {m : Option (List α)} (h : Ex C B Γ e (vS (rL r)) m) : Ex C B Γ e (vQ r) m :=
  ex_to h fun _ _ _ _ _ f ⟨a, vs, h1, h2, h3, h4⟩ => ⟨a, vs, h1, .inl (f _ _ h2), h3, h4⟩
theorem ex_qT {r : R α} {m : Option (List α)} (h : Ex C B Γ e (vS (rT r)) m) : Ex C B Γ e (vQ r) m :=
  ex_to h fun _ _ _ _ _ f ⟨a, vs, h1, h2, h3, h4⟩ => ⟨a, vs, h1, .inr h2, h3, h4⟩
theorem ex_qO {r : R α} {m : Option (List α)} (h : Ex C B Γ e (vL r) m) : Ex C B Γ e (vQ r) m :=
  ex_to h fun _ _ _ _ _ f ⟨a, vs, h1, h2, h3, h4⟩ => ⟨a, vs, h1, .inl h2, h3, h4⟩
theorem ex_l {r : R α} {m : Option (List α)} (h : Ex C B Γ e (vS (rL r)) m) : Ex C B Γ e (vL r) m :=
  ex_to h fun _ _ _ _ _ f ⟨a, vs, h1, h2, h3, h4⟩ => ⟨a, vs, h1, f _ _ h2, h3, h4⟩
/-- a pair as a tuple of two alike -/
theorem ex_qP {r : R α} {m : Option (α × α)} (h : Ex C B Γ e (vS (rP r r)) m) : Ex C B Γ e (vQ r) (m.map fun x => [x.1, x.2]) :=
  ex_map _ h fun _ _ _ _ _ f ⟨a, va, vb, h1, h2, h3, h4⟩ => ⟨a, [va, vb], h1, .inr h2, (by show 2 ≤ sizeLine; decide), h3, h4, trivial⟩
/-- what is never None -/
def NN (r : R α) : Prop := ∀ K F v x, r.rep K F v x → v ≠ .non
theorem nnI : NN rI := fun _ _ _ _ h => by rw [show _ = V.int _ from h]; intro z; cases z
theorem nnB : NN rB := fun _ _ _ _ h => by rw [show _ = V.bl _ from h]; intro z; cases z
theorem nnS : NN rS := fun _ _ _ _ h => by rw [show _ = V.str _ from h]; intro z; cases z
theorem nnP {r : R α} {q : R β} : NN (rP r q) := fun _ _ _ _ ⟨_, _, _, h, _⟩ => by rw [h]; intro z; cases z
theorem nnP3 {r : R α} {q : R β} {p : R γ} : NN (rP3 r q p) := fun _ _ _ _ ⟨_, _, _, _, h, _⟩ => by rw [h]; intro z; cases z
theorem nnP4 {δ : Type} {r : R α} {q : R β} {p : R γ} {s : R δ} : NN (rP4 r q p s) := fun _ _ _ _ ⟨_, _, _, _, _, h, _⟩ => by rw [h]; intro z; cases z
theorem nnL {r : R α} : NN (rL r) := fun _ _ _ _ ⟨_, _, h, _⟩ => by rw [h]; intro z; cases z
theorem nnT {r : R α} : NN (rT r) := fun _ _ _ _ ⟨_, _, h, _⟩ => by rw [h]; intro z; cases z
theorem ex_some {r : R α} {x : α} (n : NN r) (h : Ex C B Γ e (vS r) (some x)) : Ex C B Γ e (vS (rO r)) (some (some x)) :=
  ex_map (m := some x) some h fun _ _ _ _ _ _ q => ⟨n _ _ _ _ q, q⟩
theorem ex_somep {r : R α} {m : Option α} (n : NN r) (h : Ex C B Γ e (vS r) m) : Ex C B Γ e (vS (rO r)) (m.map some) :=
  ex_map (m := m) some h fun _ _ _ _ _ _ q => ⟨n _ _ _ _ q, q⟩
/-- a thing that is there, told as None or a thing -/
theorem ex_get {r : R α} {m : Option (Option α)} (h : Ex C B Γ e (vS (rO r)) m) : Ex C B Γ e (vS r) (m.bind id) := by
  intro X hX σ F H Q y a hm k
  obtain ⟨z, rfl, e2⟩ := bd_some hm
  cases e2
  exact h X hX σ F H Q _ a rfl fun v F' H' x q => k v F' H' x q.2
/-- a new list is settled -/
theorem ex_fs {r : R α} {m : Option (List α)} (h : ExF C B Γ e (oL r) m) : Ex C B Γ e (vS (rL r)) m := by
  intro X hX σ F H Q y a hm k
  refine h X hX σ F H Q y a hm fun p ho F' H' x n f hp hr => ?_
  obtain ⟨vs, rfl, h1, h2⟩ := hr
  have e := x.settle n hp f
  exact k _ _ H' e ⟨p, vs, rfl, upd_same, h1, All2.imp (fun _ _ z => r.up (Same.upd f) z) h2⟩
theorem ex_fl {r : R α} {m : Option (List α)} (h : ExF C B Γ e (oL r) m) : Ex C B Γ e (vL r) m := ex_l (ex_fs h)
theorem ex_fq {r : R α} {m : Option (List α)} (h : ExF C B Γ e (oL r) m) : Ex C B Γ e (vQ r) m := ex_q (ex_fs h)

/-! ### arguments, displays -/
theorem ea_nil : Ea C B Γ [] aN (some ()) := by
  intro X hX σ F H Q y a hm k
  exact tA_of pa_nil (k [] F H (Ext.refl a.fh) rfl)
theorem ea_cons {M : Vp α} {t : Ar τ} {m : Option α} {n : Option τ} (h : Ex C B Γ e M m) (hs : Ea C B Γ es t n)
    (hst : ∀ env : Env, starEach (e :: es) env = (false, eval e env) :: starEach es env := by intro _; rfl) : Ea C B Γ (e :: es) (aC M t) (b2 m n fun x y => some (x, y)) := by
  intro X hX σ F H Q y a hm k
  obtain ⟨x, z, hx, hz, e2⟩ := b2_some hm
  cases e2
  refine tA_of (pa_cons pe_self pa_self (hst X.env)) (h X hX σ F H _ x a hx fun v F1 H1 x1 q1 => ?_)
  refine hs X hX σ F1 H1 _ z (a.ext x1) hz fun vs F2 H2 x2 q2 => ?_
  exact k _ F2 H2 (x1.trans x2) ⟨v, vs, rfl, M.up x2 q1, q2⟩
theorem ea_cons0 {M : Vp α} {t : Ar τ} {x : α} {y : τ} (h : Ex C B Γ e M (some x)) (hs : Ea C B Γ es t (some y))
    (hst : ∀ env : Env, starEach (e :: es) env = (false, eval e env) :: starEach es env := by intro _; rfl) : Ea C B Γ (e :: es) (aC M t) (some (x, y)) := ea_cons (m := some x) (n := some y) h hs hst
/-- tuples of two, three, four -/
theorem ex_tup2 {k : _} {r : R α} {q : R β} {m : Option (α × β × Unit)} (h : Ea C B Γ es (aC (vS r) (aC (vS q) aN)) m) : Ex C B Γ (.Tuple es k pos) (vS (rP r q)) (m.map fun t => (t.1, t.2.1)) := by
  intro X hX σ F H Q y a hm kk
  cases m with
  | none => cases hm
  | some t =>
    cases hm
    refine tE_of (pe_tup pa_self) (h X hX σ F H _ t a rfl fun vs F1 H1 x1 ⟨v, ws, e1, p1, w, us, e2, p2, e3⟩ => ?_)
    subst e3; subst e2; subst e1
    refine ⟨by show 2 ≤ sizeLine; decide, fun p hp => ?_⟩
    have x2 := Ext.new (o := .tup [v, w]) x1.fh hp
    exact kk _ _ _ (x1.trans x2) ⟨p, v, w, rfl, .inl (.inl upd_same), r.up x2.f p1, q.up x2.f p2⟩
theorem ex_tup20 {k : _} {r : R α} {q : R β} {x : α} {y : β} (h : Ea C B Γ es (aC (vS r) (aC (vS q) aN)) (some (x, y, ()))) : Ex C B Γ (.Tuple es k pos) (vS (rP r q)) (some (x, y)) := ex_tup2 h
theorem ex_tup3 {k : _} {r : R α} {q : R β} {s : R γ} {m : Option (α × β × γ × Unit)} (h : Ea C B Γ es (aC (vS r) (aC (vS q) (aC (vS s) aN))) m) : Ex C B Γ (.Tuple es k pos) (vS (rP3 r q s)) (m.map fun t => (t.1, t.2.1, t.2.2.1)) := by
  intro X hX σ F H Q y a hm kk
  cases m with
  | none => cases hm
  | some t =>
    cases hm
    refine tE_of (pe_tup pa_self) (h X hX σ F H _ t a rfl fun vs F1 H1 x1 ⟨v, ws, e1, p1, w, us, e2, p2, u, ts, e3, p3, e4⟩ => ?_)
    subst e4; subst e3; subst e2; subst e1
    refine ⟨by show 3 ≤ sizeLine; decide, fun p hp => ?_⟩
    have x2 := Ext.new (o := .tup [v, w, u]) x1.fh hp
    exact kk _ _ _ (x1.trans x2) ⟨p, v, w, u, rfl, .inl (.inl upd_same), r.up x2.f p1, q.up x2.f p2, s.up x2.f p3⟩
theorem ex_tup30 {k : _} {r : R α} {q : R β} {s : R γ} {x : α} {y : β} {z : γ} (h : Ea C B Γ es (aC (vS r) (aC (vS q) (aC (vS s) aN))) (some (x, y, z, ()))) : Ex C B Γ (.Tuple es k pos) (vS (rP3 r q s)) (some (x, y, z)) := ex_tup3 h
theorem ex_tup4 {δ : Type} {k : _} {r : R α} {q : R β} {s : R γ} {t : R δ} {m : Option (α × β × γ × δ × Unit)} (h : Ea C B Γ es (aC (vS r) (aC (vS q) (aC (vS s) (aC (vS t) aN)))) m) : Ex C B Γ (.Tuple es k pos) (vS (rP4 r q s t)) (m.map fun t => (t.1, t.2.1, t.2.2.1, t.2.2.2.1)) := by
  intro X hX σ F H Q y a hm kk
  cases m with
  | none => cases hm
  | some t =>
    cases hm
    refine tE_of (pe_tup pa_self) (h X hX σ F H _ _ a rfl fun vs F1 H1 x1 ⟨v, ws, e1, p1, w, us, e2, p2, u, ts, e3, p3, z, zs, e4, p4, e5⟩ => ?_)
    subst e5; subst e4; subst e3; subst e2; subst e1
    refine ⟨by show 4 ≤ sizeLine; decide, fun p hp => ?_⟩
    have x2 := Ext.new (o := .tup [v, w, u, z]) x1.fh hp
    exact kk _ _ _ (x1.trans x2) ⟨p, v, w, u, z, rfl, .inl (.inl upd_same), r.up x2.f p1, q.up x2.f p2, s.up x2.f p3, R.up _ x2.f p4⟩
theorem ex_tup40 {δ : Type} {k : _} {r : R α} {q : R β} {s : R γ} {t : R δ} {x : α} {y : β} {z : γ} {u : δ} (h : Ea C B Γ es (aC (vS r) (aC (vS q) (aC (vS s) (aC (vS t) aN)))) (some (x, y, z, u, ()))) : Ex C B Γ (.Tuple es k pos) (vS (rP4 r q s t)) (some (x, y, z, u)) := ex_tup4 h
/-- items of one kind -/
def aL (r : R α) : Ar (List α) := ⟨fun K F _ vs xs => All2 (r.rep K F) vs xs, fun e h => All2.imp (fun _ _ z => r.up e.f z) h⟩
theorem el_nil {r : R α} : Ea C B Γ [] (aL r) (some []) := by
  intro X hX σ F H Q y a hm k
  cases hm
  exact tA_of pa_nil (k [] F H (Ext.refl a.fh) trivial)
theorem el_cons {r : R α} {m : Option α} {n : Option (List α)} (h : Ex C B Γ e (vS r) m) (hs : Ea C B Γ es (aL r) n)
    (hst : ∀ env : Env, starEach (e :: es) env = (false, eval e env) :: starEach es env := by intro _; rfl) : Ea C B Γ (e :: es) (aL r) (b2 m n fun x y => some (x :: y)) := by
  intro X hX σ F H Q y a hm k
  obtain ⟨x, z, hx, hz, e2⟩ := b2_some hm
  cases e2
  refine tA_of (pa_cons pe_self pa_self (hst X.env)) (h X hX σ F H _ x a hx fun v F1 H1 x1 q1 => ?_)
  refine hs X hX σ F1 H1 _ z (a.ext x1) hz fun vs F2 H2 x2 q2 => ?_
  exact k _ F2 H2 (x1.trans x2) ⟨r.up x2.f q1, q2⟩
theorem el_cons0 {r : R α} {x : α} {y : List α} (h : Ex C B Γ e (vS r) (some x)) (hs : Ea C B Γ es (aL r) (some y))
    (hst : ∀ env : Env, starEach (e :: es) env = (false, eval e env) :: starEach es env := by intro _; rfl) : Ea C B Γ (e :: es) (aL r) (some (x :: y)) := el_cons (m := some x) (n := some y) h hs hst
theorem ex_lst {r : R α} {m : Option (List α)} (h : Ea C B Γ es (aL r) m) (hl : ∀ x, m = some x → x.length ≤ 1000) : ExF C B Γ (.List es pos) (oL r) m := by
  intro X hX σ F H Q y a hm kk
  refine tE_of (pe_lst pa_self) (h X hX σ F H _ y a hm fun vs F1 H1 x1 q => ?_)
  have hv : vs.length ≤ sizeLine := by rw [q.len]; exact Nat.le_of_lt (small1000 (hl y hm))
  refine ⟨hv, fun p hp => ?_⟩
  have x2 := Ext.own (o := .lst vs) x1.fh hp
  exact kk p _ _ _ (x1.trans x2) (x1.h.free hp) (x1.fh.free hp) upd_same ⟨vs, rfl, hv, q⟩
theorem ex_lst0 {r : R α} {x : List α} (h : Ea C B Γ es (aL r) (some x)) (hl : Nat.ble x.length 1000 = true := by rfl) : ExF C B Γ (.List es pos) (oL r) (some x) := ex_lst h fun _ e => by cases e; exact Nat.le_of_ble_eq_true hl
/-- a tuple of items of one kind -/
theorem ex_tupL {k : _} {r : R α} {x : List α} (h : Ea C B Γ es (aL r) (some x)) (hl : Nat.ble x.length 1000 = true := by rfl) : Ex C B Γ (.Tuple es k pos) (vS (rT r)) (some x) := by
  intro X hX σ F H Q y a hm kk
  cases hm
  refine tE_of (pe_tup pa_self) (h X hX σ F H _ x a rfl fun vs F1 H1 x1 q => ?_)
  have hv : vs.length ≤ sizeLine := by rw [q.len]; exact Nat.le_of_lt (small1000 (Nat.le_of_ble_eq_true hl))
  refine ⟨hv, fun p hp => ?_⟩
  have x2 := Ext.new (o := .tup vs) x1.fh hp
  exact kk _ _ _ (x1.trans x2) ⟨p, vs, rfl, .inl (.inl upd_same), hv, All2.imp (fun _ _ z => r.up x2.f z) q⟩

/-! ### operators by values -/
/-- two values -/
structure O2 (C : Cc) (f : Value → Value → Sem Value) {α β γ : Type} (M1 : Vp α) (M2 : Vp β) (M : Vp γ) (g : α → β → Option γ) : Prop where
  run : ∀ X, Is C X → ∃ rr : R2, OpR X f rr ∧ ∀ (F H : Hp) (u v : V) (x : α) (y : β) (z : γ) (Q : VK), Same F H → M1.p C.K F H u x → M2.p C.K F H v y → g x y = some z →
    (∀ w F' H', Ext F H F' H' → M.p C.K F' H' w z → Q w H') → rr u v H Q
structure O2F (C : Cc) (f : Value → Value → Sem Value) {α β γ : Type} (M1 : Vp α) (M2 : Vp β) (r : Ob γ) (g : α → β → Option γ) : Prop where
  run : ∀ X, Is C X → ∃ rr : R2, OpR X f rr ∧ ∀ (F H : Hp) (u v : V) (x : α) (y : β) (z : γ) (Q : VK), Same F H → M1.p C.K F H u x → M2.p C.K F H v y → g x y = some z →
    (∀ p ho F' H', Ext F H F' H' → H p = none → F' p = none → H' p = some ho → r.rep C.K F' p ho z → Q (.ref p) H') → rr u v H Q
theorem ex_bin {op : Operator} {M1 : Vp α} {M2 : Vp β} {M : Vp γ} {g : α → β → Option γ} {m : Option α} {n : Option β} (o : O2 C (binaryOp op) M1 M2 M g) (h1 : Ex C B Γ a M1 m) (h2 : Ex C B Γ b M2 n) :
    Ex C B Γ (.BinOp a op b pos) M (b2 m n g) := by
  intro X hX σ F H Q z at' hm k
  obtain ⟨x, y, hx, hy, hz⟩ := b2_some hm
  obtain ⟨rr, ho, hr⟩ := o.run X hX
  refine tE_of (pe_op ho pe_self pe_self) (h1 X hX σ F H _ x at' hx fun u F1 H1 x1 q1 => ?_)
  refine h2 X hX σ F1 H1 _ y (at'.ext x1) hy fun v F2 H2 x2 q2 => ?_
  exact hr F2 H2 u v x y z Q x2.fh (M1.up x2 q1) q2 hz fun w F' H' x3 q3 => k w F' H' (x1.trans (x2.trans x3)) q3
theorem ex_bin0 {op : Operator} {M1 : Vp α} {M2 : Vp β} {M : Vp γ} {g : α → β → Option γ} {x : α} {y : β} (o : O2 C (binaryOp op) M1 M2 M g) (h1 : Ex C B Γ a M1 (some x)) (h2 : Ex C B Γ b M2 (some y)) {m : Option γ} (hr : g x y = m := by rfl) :
    Ex C B Γ (.BinOp a op b pos) M m := hr ▸ ex_bin o h1 h2
theorem ex_binF {op : Operator} {M1 : Vp α} {M2 : Vp β} {r : Ob γ} {g : α → β → Option γ} {m : Option α} {n : Option β} (o : O2F C (binaryOp op) M1 M2 r g) (h1 : Ex C B Γ a M1 m) (h2 : Ex C B Γ b M2 n) :
    ExF C B Γ (.BinOp a op b pos) r (b2 m n g) := by
  intro X hX σ F H Q z at' hm k
  obtain ⟨x, y, hx, hy, hz⟩ := b2_some hm
  obtain ⟨rr, ho, hr⟩ := o.run X hX
  refine tE_of (pe_op ho pe_self pe_self) (h1 X hX σ F H _ x at' hx fun u F1 H1 x1 q1 => ?_)
  refine h2 X hX σ F1 H1 _ y (at'.ext x1) hy fun v F2 H2 x2 q2 => ?_
  exact hr F2 H2 u v x y z Q x2.fh (M1.up x2 q1) q2 hz fun p w F' H' x3 n1 n2 n3 q3 => k p w F' H' (x1.trans (x2.trans x3)) ((x1.trans x2).h.free n1) n2 n3 q3
theorem ex_binF0 {op : Operator} {M1 : Vp α} {M2 : Vp β} {r : Ob γ} {g : α → β → Option γ} {x : α} {y : β} (o : O2F C (binaryOp op) M1 M2 r g) (h1 : Ex C B Γ a M1 (some x)) (h2 : Ex C B Γ b M2 (some y)) {m : Option γ} (hr : g x y = m := by rfl) :
    ExF C B Γ (.BinOp a op b pos) r m := hr ▸ ex_binF o h1 h2
/-- a comparison's mark -/
theorem ex_cmp {op : CmpOp} {M1 : Vp α} {M2 : Vp β} {M : Vp γ} {g : α → β → Option γ} {m : Option α} {n : Option β} (o : O2 C (compareOp op) M1 M2 M g) (h1 : Ex C B Γ a M1 m) (h2 : Ex C B Γ b M2 n)
    (hm : behindInMarks op b = false := by first | exact nomark _ | rfl) : Ex C B Γ (.Compare a [op] [b] pos) M (b2 m n g) := by
  intro X hX σ F H Q z at' hmm k
  obtain ⟨x, y, hx, hy, hz⟩ := b2_some hmm
  obtain ⟨rr, ho, hr⟩ := o.run X hX
  refine tE_of (pe_cmpR ho pe_self pe_self hm) (h1 X hX σ F H _ x at' hx fun u F1 H1 x1 q1 => ?_)
  refine h2 X hX σ F1 H1 _ y (at'.ext x1) hy fun v F2 H2 x2 q2 => ?_
  exact hr F2 H2 u v x y z Q x2.fh (M1.up x2 q1) q2 hz fun w F' H' x3 q3 => k w F' H' (x1.trans (x2.trans x3)) q3
theorem ex_cmp0 {op : CmpOp} {M1 : Vp α} {M2 : Vp β} {M : Vp γ} {g : α → β → Option γ} {x : α} {y : β} (o : O2 C (compareOp op) M1 M2 M g) (h1 : Ex C B Γ a M1 (some x)) (h2 : Ex C B Γ b M2 (some y))
    (hm : behindInMarks op b = false := by first | exact nomark _ | rfl) {m : Option γ} (hr : g x y = m := by rfl) : Ex C B Γ (.Compare a [op] [b] pos) M m := hr ▸ ex_cmp o h1 h2 hm
theorem tt_cmp {op : CmpOp} {M1 : Vp α} {M2 : Vp β} {g : α → β → Option Bool} {m : Option α} {n : Option β} (o : O2 C (compareOp op) M1 M2 (vS rB) g) (h1 : Ex C B Γ a M1 m) (h2 : Ex C B Γ b M2 n)
    (hm : behindInMarks op b = false := by first | exact nomark _ | rfl) : Tt C B Γ (.Compare a [op] [b] pos) (b2 m n g) := by
  intro X hX σ F H Q z at' hmm k
  obtain ⟨x, y, hx, hy, hz⟩ := b2_some hmm
  obtain ⟨rr, ho, hr⟩ := o.run X hX
  refine tT_of (pt_cmpR ho pe_self pe_self hm) (h1 X hX σ F H _ x at' hx fun u F1 H1 x1 q1 => ?_)
  refine h2 X hX σ F1 H1 _ y (at'.ext x1) hy fun v F2 H2 x2 q2 => ?_
  exact hr F2 H2 u v x y z _ x2.fh (M1.up x2 q1) q2 hz fun w F' H' x3 q3 => ⟨z, q3, k F' H' (x1.trans (x2.trans x3))⟩
theorem tt_cmp0 {op : CmpOp} {M1 : Vp α} {M2 : Vp β} {g : α → β → Option Bool} {x : α} {y : β} (o : O2 C (compareOp op) M1 M2 (vS rB) g) (h1 : Ex C B Γ a M1 (some x)) (h2 : Ex C B Γ b M2 (some y))
    (hm : behindInMarks op b = false := by first | exact nomark _ | rfl) {m : Option Bool} (hr : g x y = m := by rfl) : Tt C B Γ (.Compare a [op] [b] pos) m := hr ▸ tt_cmp o h1 h2 hm
/-- a value that is a bool, as a test -/
theorem tt_val {m : Option Bool} (h : Ex C B Γ e (vS rB) m) (he : ∀ (env : Env) whole, isTrue e env whole = (do let v ← whole; standAt e.pos; holding [v] (truthy v)) := by intro _ _; rfl) : Tt C B Γ e m := by
  intro X hX σ F H Q z at' hm k
  exact tT_of (pt_val pe_self (he X.env)) (h X hX σ F H _ z at' hm fun v F' H' x q => ⟨z, q, k F' H' x⟩)
theorem tt_not {m : Option Bool} {x : _} (h : Tt C B Γ e m) : Tt C B Γ (.UnaryOp .Not e x) (m.map fun c => !c) := by
  intro X hX σ F H Q z at' hm k
  cases m with
  | none => cases hm
  | some c =>
    cases hm
    exact tT_of (pt_not pt_self) (h X hX σ F H _ c at' rfl fun F' H' x => k F' H' x)
theorem tt_not0 {c : Bool} {x : _} (h : Tt C B Γ e (some c)) : Tt C B Γ (.UnaryOp .Not e x) (some (!c)) := tt_not (m := some c) h
def bAnd (m n : Option Bool) : Option Bool := m.bind fun c => if c = true then n else some false
def bOr (m n : Option Bool) : Option Bool := m.bind fun c => if c = true then some true else n
theorem tw_and1 {m : Option Bool} (h : Tt C B Γ e m) : Tw C B Γ (.BoolOp .And [e] pos) m := by
  intro X hX σ F H Q z at' hm k
  exact tW_of (pw_and1 pt_self) (h X hX σ F H _ z at' hm k)
theorem tw_or1 {m : Option Bool} (h : Tt C B Γ e m) : Tw C B Γ (.BoolOp .Or [e] pos) m := by
  intro X hX σ F H Q z at' hm k
  exact tW_of (pw_or1 pt_self) (h X hX σ F H _ z at' hm k)
theorem tw_and {m n : Option Bool} (h : Tt C B Γ a m) (h2 : Tw C B Γ (.BoolOp .And (b :: es) pos) n) : Tw C B Γ (.BoolOp .And (a :: b :: es) pos) (bAnd m n) := by
  intro X hX σ F H Q z at' hm k
  obtain ⟨c, hc, e2⟩ := bd_some hm
  refine tW_of (pw_and pt_self pw_self) (h X hX σ F H _ c at' hc fun F1 H1 x1 => ?_)
  cases c with
  | true => exact iteT (h2 X hX σ F1 H1 Q z (at'.ext x1) e2 fun F' H' x2 => k F' H' (x1.trans x2))
  | false =>
    cases e2
    exact iteF (k F1 H1 x1)
theorem tw_or {m n : Option Bool} (h : Tt C B Γ a m) (h2 : Tw C B Γ (.BoolOp .Or (b :: es) pos) n) : Tw C B Γ (.BoolOp .Or (a :: b :: es) pos) (bOr m n) := by
  intro X hX σ F H Q z at' hm k
  obtain ⟨c, hc, e2⟩ := bd_some hm
  refine tW_of (pw_or pt_self pw_self) (h X hX σ F H _ c at' hc fun F1 H1 x1 => ?_)
  cases c with
  | false => exact iteF (h2 X hX σ F1 H1 Q z (at'.ext x1) e2 fun F' H' x2 => k F' H' (x1.trans x2))
  | true =>
    cases e2
    exact iteT (k F1 H1 x1)
theorem tt_w {m : Option Bool} (h : Tw C B Γ e m) : Tt C B Γ e m := by
  intro X hX σ F H Q z at' hm k
  exact tT_of pw_self.pt (h X hX σ F H _ z at' hm k)
theorem bAnd0 {m : Bool} {n : Option Bool} : bAnd (some m) n = if m = true then n else some false := rfl
/-- as values -/
theorem ex_one {op : _} {m : Option Bool} (h : Ex C B Γ e (vS rB) m) : Ex C B Γ (.BoolOp op [e] pos) (vS rB) m := by
  intro X hX σ F H Q z at' hm k
  exact tE_of (pe_one pe_self) (h X hX σ F H _ z at' hm k)
theorem ex_and {m n : Option Bool} (h : Ex C B Γ a (vS rB) m) (h2 : Ex C B Γ (.BoolOp .And (b :: es) pos) (vS rB) n) : Ex C B Γ (.BoolOp .And (a :: b :: es) pos) (vS rB) (bAnd m n) := by
  intro X hX σ F H Q z at' hm k
  obtain ⟨c, hc, e2⟩ := bd_some hm
  refine tE_of (pe_and pe_self pe_self) (h X hX σ F H _ c at' hc fun v F1 H1 x1 q => ⟨c, q, ?_⟩)
  cases c with
  | true => exact iteT (h2 X hX σ F1 H1 Q z (at'.ext x1) e2 fun w F' H' x2 q2 => k w F' H' (x1.trans x2) q2)
  | false =>
    cases e2
    exact iteF (k _ F1 H1 x1 rfl)
theorem ex_or {m n : Option Bool} (h : Ex C B Γ a (vS rB) m) (h2 : Ex C B Γ (.BoolOp .Or (b :: es) pos) (vS rB) n) : Ex C B Γ (.BoolOp .Or (a :: b :: es) pos) (vS rB) (bOr m n) := by
  intro X hX σ F H Q z at' hm k
  obtain ⟨c, hc, e2⟩ := bd_some hm
  refine tE_of (pe_or pe_self pe_self) (h X hX σ F H _ c at' hc fun v F1 H1 x1 q => ⟨c, q, ?_⟩)
  cases c with
  | false => exact iteF (h2 X hX σ F1 H1 Q z (at'.ext x1) e2 fun w F' H' x2 q2 => k w F' H' (x1.trans x2) q2)
  | true =>
    cases e2
    exact iteT (k _ F1 H1 x1 rfl)
theorem ex_not {m : Option Bool} (h : Ex C B Γ e (vS rB) m) : Ex C B Γ (.UnaryOp .Not e pos) (vS rB) (m.map fun c => !c) := by
  intro X hX σ F H Q z at' hm k
  cases m with
  | none => cases hm
  | some c =>
    cases hm
    exact tE_of (pe_not pe_self) (h X hX σ F H _ c at' rfl fun v F' H' x q => ⟨c, q, k _ F' H' x rfl⟩)
/-- a if t else b -/
def bIf {α : Type} (c : Option Bool) (m n : Option α) : Option α := c.bind fun c => if c = true then m else n
theorem ex_if {c : Expr} {mc : Option Bool} {M : Vp α} {m n : Option α} (hc : Tt C B Γ c mc) (h1 : Ex C B Γ a M m) (h2 : Ex C B Γ b M n) : Ex C B Γ (.IfExp c a b pos) M (bIf mc m n) := by
  intro X hX σ F H Q z at' hm k
  obtain ⟨c, hc', e2⟩ := bd_some hm
  refine tE_of (pe_ifExp pt_self pe_self pe_self) (hc X hX σ F H _ c at' hc' fun F1 H1 x1 => ?_)
  cases c with
  | true => exact iteT (h1 X hX σ F1 H1 Q z (at'.ext x1) e2 fun w F' H' x2 q2 => k w F' H' (x1.trans x2) q2)
  | false => exact iteF (h2 X hX σ F1 H1 Q z (at'.ext x1) e2 fun w F' H' x2 q2 => k w F' H' (x1.trans x2) q2)
theorem ex_if0 {c : Expr} {mc : Bool} {M : Vp α} {x y : α} (hc : Tt C B Γ c (some mc)) (h1 : Ex C B Γ a M (some x)) (h2 : Ex C B Γ b M (some y)) : Ex C B Γ (.IfExp c a b pos) M (some (if mc = true then x else y)) := by
  have h := ex_if (pos := pos) hc h1 h2
  cases mc <;> exact h
theorem ex_ifF {c : Expr} {mc : Option Bool} {M : Ob α} {m n : Option α} (hc : Tt C B Γ c mc) (h1 : ExF C B Γ a M m) (h2 : ExF C B Γ b M n) : ExF C B Γ (.IfExp c a b pos) M (bIf mc m n) := by
  intro X hX σ F H Q z at' hm k
  obtain ⟨c, hc', e2⟩ := bd_some hm
  refine tE_of (pe_ifExp pt_self pe_self pe_self) (hc X hX σ F H _ c at' hc' fun F1 H1 x1 => ?_)
  cases c with
  | true => exact iteT (h1 X hX σ F1 H1 Q z (at'.ext x1) e2 fun p w F' H' x2 n1 n2 n3 q2 => k p w F' H' (x1.trans x2) (x1.h.free n1) n2 n3 q2)
  | false => exact iteF (h2 X hX σ F1 H1 Q z (at'.ext x1) e2 fun p w F' H' x2 n1 n2 n3 q2 => k p w F' H' (x1.trans x2) (x1.h.free n1) n2 n3 q2)
/-- a < b < c -/
theorem tt_chain {op op' : CmpOp} {c : Expr} {M1 : Vp α} {M2 : Vp β} {M3 : Vp γ} {g : α → β → Option Bool} {g' : β → γ → Option Bool} {x : α} {y : β} {z : γ} (o : O2 C (compareOp op) M1 M2 (vS rB) g) (o' : O2 C (compareOp op') M2 M3 (vS rB) g')
    (h1 : Ex C B Γ a M1 (some x)) (h2 : Ex C B Γ b M2 (some y)) (h3 : Ex C B Γ c M3 (some z)) (hlm : lastMarks [op, op'] [b, c] = false := by rfl) : Tt C B Γ (.Compare a [op, op'] [b, c] pos) (bAnd (g x y) (g' y z)) := by
  intro X hX σ F H Q k at' hmm kk
  obtain ⟨d, hd, e2⟩ := bd_some hmm
  obtain ⟨rr, ho, hr⟩ := o.run X hX
  obtain ⟨rr', ho', hr'⟩ := o'.run X hX
  refine tT_of (pt_chain ho ho' pe_self pe_self pe_self hlm) (h1 X hX σ F H _ x at' rfl fun u F1 H1 x1 q1 => ?_)
  refine h2 X hX σ F1 H1 _ y (at'.ext x1) rfl fun v F2 H2 x2 q2 => ?_
  refine hr F2 H2 u v x y d _ x2.fh (M1.up x2 q1) q2 hd fun w F3 H3 x3 q3 => ⟨d, q3, ?_⟩
  cases d with
  | true =>
    refine iteT (h3 X hX σ F3 H3 _ z ((at'.ext x1).ext (x2.trans x3)) rfl fun w' F4 H4 x4 q4 => ?_)
    exact hr' F4 H4 v w' y z k _ x4.fh (M2.up (x3.trans x4) q2) q4 e2 fun w'' F5 H5 x5 q5 => ⟨k, q5, kk F5 H5 (x1.trans (x2.trans (x3.trans (x4.trans x5))))⟩
  | false =>
    cases e2
    exact iteF ⟨false, rfl, kk F3 H3 (x1.trans (x2.trans x3))⟩
theorem ex_chain {op op' : CmpOp} {c : Expr} {M1 : Vp α} {M2 : Vp β} {M3 : Vp γ} {g : α → β → Option Bool} {g' : β → γ → Option Bool} {x : α} {y : β} {z : γ} (o : O2 C (compareOp op) M1 M2 (vS rB) g) (o' : O2 C (compareOp op') M2 M3 (vS rB) g')
    (h1 : Ex C B Γ a M1 (some x)) (h2 : Ex C B Γ b M2 (some y)) (h3 : Ex C B Γ c M3 (some z)) (hlm : lastMarks [op, op'] [b, c] = false := by rfl) : Ex C B Γ (.Compare a [op, op'] [b, c] pos) (vS rB) (bAnd (g x y) (g' y z)) := by
  intro X hX σ F H Q k at' hmm kk
  obtain ⟨d, hd, e2⟩ := bd_some hmm
  obtain ⟨rr, ho, hr⟩ := o.run X hX
  obtain ⟨rr', ho', hr'⟩ := o'.run X hX
  refine tE_of (pe_chain ho ho' pe_self pe_self pe_self hlm) (h1 X hX σ F H _ x at' rfl fun u F1 H1 x1 q1 => ?_)
  refine h2 X hX σ F1 H1 _ y (at'.ext x1) rfl fun v F2 H2 x2 q2 => ?_
  refine hr F2 H2 u v x y d _ x2.fh (M1.up x2 q1) q2 hd fun w F3 H3 x3 q3 => ⟨d, q3, ?_⟩
  cases d with
  | true =>
    refine iteT (h3 X hX σ F3 H3 _ z ((at'.ext x1).ext (x2.trans x3)) rfl fun w' F4 H4 x4 q4 => ?_)
    exact hr' F4 H4 v w' y z k _ x4.fh (M2.up (x3.trans x4) q2) q4 e2 fun w'' F5 H5 x5 q5 => kk w'' F5 H5 (x1.trans (x2.trans (x3.trans (x4.trans x5)))) q5
  | false =>
    cases e2
    exact iteF (kk _ F3 H3 (x1.trans (x2.trans x3)) rfl)
end
end L2.T
set_option Elab.async false
set_option linter.all false
set_option maxRecDepth 100000
/-! Subscripts, calls, built-ins, equality. -/
namespace L2.T
open PySem PySem.Spec PyProof.Rows
section
variable {C : Cc} {B : Bs} {Γ : List Sl} {α β γ τ : Type} {e a b : Expr} {es : List Expr} {pos : Pos}

/-! ### ints -/
theorem o2_int {f : Value → Value → Sem Value} {g : Int → Int → Int} (h : ∀ X, OpR X f (rI0 fun i j => .int (g i j))) : O2 C f (vS rI) (vS rI) (vS rI) (fun x y => some (g x y)) :=
  ⟨fun X hX => ⟨_, h X, fun F H u v x y z Q f h1 h2 e k => by
    cases e
    exact ⟨x, y, h1, h2, k _ F H (Ext.refl f) rfl⟩⟩⟩
theorem o2_bool {f : Value → Value → Sem Value} {g : Int → Int → Bool} (h : ∀ X, OpR X f (rI0 fun i j => .bl (g i j))) : O2 C f (vS rI) (vS rI) (vS rB) (fun x y => some (g x y)) :=
  ⟨fun X hX => ⟨_, h X, fun F H u v x y z Q f h1 h2 e k => by
    cases e
    exact ⟨x, y, h1, h2, k _ F H (Ext.refl f) rfl⟩⟩⟩
theorem o_add : O2 C (binaryOp .Add) (vS rI) (vS rI) (vS rI) (fun x y => some (x + y)) := o2_int fun _ => op_add
theorem o_sub : O2 C (binaryOp .Sub) (vS rI) (vS rI) (vS rI) (fun x y => some (x - y)) := o2_int fun _ => op_sub
theorem io_add : O2 C (inplaceOp .Add) (vS rI) (vS rI) (vS rI) (fun x y => some (x + y)) := o2_int fun _ => iop_add
theorem io_sub : O2 C (inplaceOp .Sub) (vS rI) (vS rI) (vS rI) (fun x y => some (x - y)) := o2_int fun _ => iop_sub
theorem o_lt : O2 C (compareOp .Lt) (vS rI) (vS rI) (vS rB) (fun x y => some (decide (x < y))) := o2_bool fun _ => op_lt
theorem o_le : O2 C (compareOp .LtE) (vS rI) (vS rI) (vS rB) (fun x y => some (decide (x ≤ y))) := o2_bool fun _ => op_le
theorem o_gt : O2 C (compareOp .Gt) (vS rI) (vS rI) (vS rB) (fun x y => some (decide (y < x))) := o2_bool fun _ => op_gt
theorem o_ge : O2 C (compareOp .GtE) (vS rI) (vS rI) (vS rB) (fun x y => some (decide (y ≤ x))) := o2_bool fun _ => op_ge
/-- a size that no memory minds -/
def sm (x : Int) : Bool := decide (x.natAbs < 2 ^ 4000)
def mulG (x y : Int) : Option Int := if sm x = true ∧ sm y = true then some (x * y) else none
def divG (x y : Int) : Option Int := if 0 < y ∧ y.natAbs < 2 ^ 4000 then some (x / y) else none
def modG (x y : Int) : Option Int := if 0 < y then some (x % y) else none
theorem o_mul : O2 C (binaryOp .Mult) (vS rI) (vS rI) (vS rI) mulG :=
  ⟨fun X hX => ⟨_, op_mulW, fun F H u v x y z Q f h1 h2 e k => by
    unfold mulG at e
    split at e
    · rename_i hs
      cases e
      exact ⟨x, y, h1, h2, wide_mul (of_decide_eq_true hs.1) (of_decide_eq_true hs.2) (by decide) (by decide) (by decide), k _ F H (Ext.refl f) rfl⟩
    · cases e⟩⟩
theorem o_div : O2 C (binaryOp .FloorDiv) (vS rI) (vS rI) (vS rI) divG :=
  ⟨fun X hX => ⟨_, op_fdivW, fun F H u v x y z Q f h1 h2 e k => by
    unfold divG at e
    split at e
    · rename_i hs
      cases e
      exact ⟨x, y, h1, h2, wide_div hs.1 hs.2 (by decide) (by decide), k _ F H (Ext.refl f) rfl⟩
    · cases e⟩⟩
theorem o_mod : O2 C (binaryOp .Mod) (vS rI) (vS rI) (vS rI) modG :=
  ⟨fun X hX => ⟨_, op_mod, fun F H u v x y z Q f h1 h2 e k => by
    unfold modG at e
    split at e
    · rename_i hs
      cases e
      exact ⟨x, y, h1, h2, hs, k _ F H (Ext.refl f) rfl⟩
    · cases e⟩⟩
/-- a power of written numbers -/
def powG (x y : Int) : Option Int := if 0 ≤ y ∧ y ≤ 1000000 ∧ x.natAbs < 2 ^ 64 then some (x ^ y.toNat) else none
theorem o_pow : O2 C (binaryOp .Pow) (vS rI) (vS rI) (vS rI) powG :=
  ⟨fun X hX => ⟨_, op_pow, fun F H u v x y z Q f h1 h2 e k => by
    unfold powG at e
    split at e
    · rename_i hs
      cases e
      exact ⟨x, y, h1, h2, hs, k _ F H (Ext.refl f) rfl⟩
    · cases e⟩⟩
theorem ex_neg {m : Option Int} (h : Ex C B Γ e (vS rI) m) : Ex C B Γ (.UnaryOp .USub e pos) (vS rI) (m.map fun i => -i) := by
  intro X hX σ F H Q z at' hm k
  cases m with
  | none => cases hm
  | some c =>
    cases hm
    exact tE_of (pe_un un_neg pe_self) (h X hX σ F H _ c at' rfl fun v F' H' x q => ⟨c, q, k _ F' H' x rfl⟩)
theorem ex_neg0 {i : Int} (h : Ex C B Γ e (vS rI) (some i)) : Ex C B Γ (.UnaryOp .USub e pos) (vS rI) (some (-i)) := ex_neg (m := some i) h

/-! ### equality of data -/
structure Dt (r : R α) [DecidableEq α] where
  enc : α → PyData
  dep : Nat
  dp : ∀ {K : Fg} {H : Hp} {v : V} {x : α}, r.rep K H v x → Dp K H v (enc x)
  eqv : ∀ x y, PyData.eqv (enc x) (enc y) = decide (x = y)
  lay : ∀ x, (enc x).canLay0 = true
  deep : ∀ x, (enc x).depth ≤ dep
def dI : Dt rI := ⟨.int, 0, fun h => by cases h; exact .int _, fun x y => by rw [PyData.eqv]; exact Bool.beq_eq_decide_eq x y, fun _ => by simp [PyData.canLay0], fun _ => by simp [PyData.depth]⟩
def dB : Dt rB := ⟨.bool, 0, fun h => by cases h; exact .bl _, fun x y => by rw [PyData.eqv]; exact Bool.beq_eq_decide_eq x y, fun _ => by simp [PyData.canLay0], fun _ => by simp [PyData.depth]⟩
def dP {r : R α} {q : R β} [DecidableEq α] [DecidableEq β] (d : Dt r) (f : Dt q) : Dt (rP r q) := ⟨fun x => .tuple [d.enc x.1, f.enc x.2], max d.dep f.dep + 1,
  fun ⟨a, va, vb, h1, h2, h3, h4⟩ => by subst h1; exact .tup h2 (.cons (d.dp h3) (.cons (f.dp h4) .nil)),
  fun x y => by
    rw [PyData.eqv, PyData.eqvAll, PyData.eqvAll, PyData.eqvAll, d.eqv, f.eqv, Bool.and_true]
    rcases x with ⟨x1, x2⟩; rcases y with ⟨y1, y2⟩
    by_cases h1 : x1 = y1 <;> by_cases h2 : x2 = y2 <;> simp [h1, h2],
  fun x => by simp [PyData.canLay0, PyData.canLayAll0, d.lay, f.lay],
  fun x => by
    have h1 := d.deep x.1
    have h2 := f.deep x.2
    simp only [PyData.depth, PyData.depthAll]
    omega⟩
def dP3 {r : R α} {q : R β} {p : R γ} [DecidableEq α] [DecidableEq β] [DecidableEq γ] (d : Dt r) (f : Dt q) (g : Dt p) : Dt (rP3 r q p) := ⟨fun x => .tuple [d.enc x.1, f.enc x.2.1, g.enc x.2.2], max d.dep (max f.dep g.dep) + 1,
  fun ⟨a, va, vb, vc, h1, h2, h3, h4, h5⟩ => by subst h1; exact .tup h2 (.cons (d.dp h3) (.cons (f.dp h4) (.cons (g.dp h5) .nil))),
  fun x y => by
    rw [PyData.eqv, PyData.eqvAll, PyData.eqvAll, PyData.eqvAll, PyData.eqvAll, d.eqv, f.eqv, g.eqv, Bool.and_true]
    rcases x with ⟨x1, x2, x3⟩; rcases y with ⟨y1, y2, y3⟩
    by_cases h1 : x1 = y1 <;> by_cases h2 : x2 = y2 <;> by_cases h3 : x3 = y3 <;> simp [h1, h2, h3],
  fun x => by simp [PyData.canLay0, PyData.canLayAll0, d.lay, f.lay, g.lay],
  fun x => by
    have h1 := d.deep x.1
    have h2 := f.deep x.2.1
    have h3 := g.deep x.2.2
    simp only [PyData.depth, PyData.depthAll]
    omega⟩
theorem dAll {r : R α} [DecidableEq α] (d : Dt r) {K : Fg} {H : Hp} : ∀ {vs : List V} {xs : List α}, All2 (r.rep K H) vs xs → DpAll K H vs (xs.map d.enc)
  | [], [], _ => .nil
  | _ :: _, _ :: _, h => .cons (d.dp h.1) (dAll d h.2)
  | [], _ :: _, h => h.elim
  | _ :: _, [], h => h.elim
theorem eqAll {r : R α} [DecidableEq α] (d : Dt r) : ∀ (xs ys : List α), PyData.eqvAll (xs.map d.enc) (ys.map d.enc) = decide (xs = ys)
  | [], [] => by simp [PyData.eqvAll]
  | x :: xs, y :: ys => by
    rw [List.map_cons, List.map_cons, PyData.eqvAll, d.eqv, eqAll d xs ys]
    by_cases h1 : x = y <;> by_cases h2 : xs = ys <;> simp [h1, h2]
  | [], _ :: _ => by simp [PyData.eqvAll]
  | _ :: _, [] => by simp [PyData.eqvAll]
theorem layAll {r : R α} [DecidableEq α] (d : Dt r) : ∀ (xs : List α), PyData.canLayAll0 (xs.map d.enc) = true
  | [] => by simp [PyData.canLayAll0]
  | x :: xs => by rw [List.map_cons, PyData.canLayAll0, d.lay, layAll d xs]; rfl
theorem deepAll {r : R α} [DecidableEq α] (d : Dt r) : ∀ (xs : List α), PyData.depthAll (xs.map d.enc) ≤ d.dep
  | [] => by simp [PyData.depthAll]
  | x :: xs => by
    have h1 := d.deep x
    have h2 := deepAll d xs
    rw [List.map_cons, PyData.depthAll]
    omega
def dL {r : R α} [DecidableEq α] (d : Dt r) : Dt (rL r) := ⟨fun xs => .list (xs.map d.enc), d.dep + 1,
  fun ⟨a, vs, h1, h2, h3, h4⟩ => by subst h1; exact .lst (.inl (.inl h2)) (dAll d h4),
  fun x y => by rw [PyData.eqv, eqAll d], fun x => by rw [PyData.canLay0]; exact layAll d x, fun x => by rw [PyData.depth]; exact Nat.succ_le_succ (deepAll d x)⟩
def dT {r : R α} [DecidableEq α] (d : Dt r) : Dt (rT r) := ⟨fun xs => .tuple (xs.map d.enc), d.dep + 1,
  fun ⟨a, vs, h1, h2, h3, h4⟩ => by subst h1; exact .tup h2 (dAll d h4),
  fun x y => by rw [PyData.eqv, eqAll d], fun x => by rw [PyData.canLay0]; exact layAll d x, fun x => by rw [PyData.depth]; exact Nat.succ_le_succ (deepAll d x)⟩
/-- None or a thing that is a tuple or an int -/
theorem eqv_none_tuple (ds : List PyData) : PyData.eqv .none (.tuple ds) = false := by simp [PyData.eqv]
def NE {r : R α} [DecidableEq α] (d : Dt r) : Prop := ∀ x, PyData.eqv .none (d.enc x) = false ∧ PyData.eqv (d.enc x) .none = false
theorem neI : NE dI := fun _ => by simp [dI, PyData.eqv]
theorem neP {r : R α} {q : R β} [DecidableEq α] [DecidableEq β] {d : Dt r} {f : Dt q} : NE (dP d f) := fun _ => by simp [dP, PyData.eqv]
theorem neP3 {r : R α} {q : R β} {p : R γ} [DecidableEq α] [DecidableEq β] [DecidableEq γ] {d : Dt r} {f : Dt q} {g : Dt p} : NE (dP3 d f g) := fun _ => by simp [dP3, PyData.eqv]
def dO {r : R α} [DecidableEq α] (d : Dt r) (n : NE d) : Dt (rO r) := ⟨fun x => match x with | none => .none | some y => d.enc y, d.dep,
  fun {K H v x} h => by
    cases x with
    | none => cases (show v = V.non from h); exact .non
    | some y => exact d.dp h.2,
  fun x y => by
    cases x with
    | none =>
      cases y with
      | none => simp [PyData.eqv]
      | some z => simp [(n z).1]
    | some w =>
      cases y with
      | none => simp [(n w).2]
      | some z =>
        show PyData.eqv (d.enc w) (d.enc z) = _
        rw [d.eqv]
        by_cases h : w = z <;> simp [h],
  fun x => by
    cases x with
    | none => simp [PyData.canLay0]
    | some y => exact d.lay y,
  fun x => by
    cases x with
    | none => simp [PyData.depth]
    | some y => exact d.deep y⟩
theorem Dt.shape {r : R α} [DecidableEq α] (d : Dt r) (h : d.dep ≤ 64) (x : α) : SeqAt.shaped (d.enc x) = true := by
  unfold SeqAt.shaped
  rw [d.lay x, Bool.true_and]
  exact decide_eq_true (Nat.le_trans (d.deep x) h)
theorem o_eq {r : R α} [DecidableEq α] (d : Dt r) (h : d.dep ≤ 64 := by decide) : O2 C (compareOp .Eq) (vS r) (vS r) (vS rB) (fun x y => some (decide (x = y))) :=
  ⟨fun X hX => ⟨_, op_eqD hX.room.units, fun F H u v x y z Q f h1 h2 e k => by
    cases e
    refine ⟨d.enc x, d.enc y, d.dp (by rw [hX.K]; exact r.up f h1), d.dp (by rw [hX.K]; exact r.up f h2), d.shape h x, d.shape h y, ?_⟩
    rw [d.eqv]
    exact k _ F H (Ext.refl f) rfl⟩⟩
theorem o_ne {r : R α} [DecidableEq α] (d : Dt r) (h : d.dep ≤ 64 := by decide) : O2 C (compareOp .NotEq) (vS r) (vS r) (vS rB) (fun x y => some (!decide (x = y))) :=
  ⟨fun X hX => ⟨_, op_neD hX.room.units, fun F H u v x y z Q f h1 h2 e k => by
    cases e
    refine ⟨d.enc x, d.enc y, d.dp (by rw [hX.K]; exact r.up f h1), d.dp (by rw [hX.K]; exact r.up f h2), d.shape h x, d.shape h y, ?_⟩
    rw [d.eqv]
    exact k _ F H (Ext.refl f) rfl⟩⟩
/-- .. of lists, one's own too -/
theorem o_eqL {r : R α} [DecidableEq α] (d : Dt r) (h : d.dep + 1 ≤ 64 := by decide) : O2 C (compareOp .Eq) (vL r) (vL r) (vS rB) (fun x y => some (decide (x = y))) :=
  ⟨fun X hX => ⟨_, op_eqD hX.room.units, fun F H u v x y z Q f ⟨p, vs, p1, p2, p3, p4⟩ ⟨q, ws, q1, q2, q3, q4⟩ e k => by
    cases e
    have a1 : (rL r).rep X.K H u x := ⟨p, vs, p1, p2, p3, All2.imp (fun _ _ z => by rw [hX.K]; exact r.up f z) p4⟩
    have a2 : (rL r).rep X.K H v y := ⟨q, ws, q1, q2, q3, All2.imp (fun _ _ z => by rw [hX.K]; exact r.up f z) q4⟩
    refine ⟨(dL d).enc x, (dL d).enc y, (dL d).dp a1, (dL d).dp a2, (dL d).shape h x, (dL d).shape h y, ?_⟩
    rw [(dL d).eqv]
    exact k _ F H (Ext.refl f) rfl⟩⟩
theorem o_neL {r : R α} [DecidableEq α] (d : Dt r) (h : d.dep + 1 ≤ 64 := by decide) : O2 C (compareOp .NotEq) (vL r) (vL r) (vS rB) (fun x y => some (!decide (x = y))) :=
  ⟨fun X hX => ⟨_, op_neD hX.room.units, fun F H u v x y z Q f ⟨p, vs, p1, p2, p3, p4⟩ ⟨q, ws, q1, q2, q3, q4⟩ e k => by
    cases e
    have a1 : (rL r).rep X.K H u x := ⟨p, vs, p1, p2, p3, All2.imp (fun _ _ z => by rw [hX.K]; exact r.up f z) p4⟩
    have a2 : (rL r).rep X.K H v y := ⟨q, ws, q1, q2, q3, All2.imp (fun _ _ z => by rw [hX.K]; exact r.up f z) q4⟩
    refine ⟨(dL d).enc x, (dL d).enc y, (dL d).dp a1, (dL d).dp a2, (dL d).shape h x, (dL d).shape h y, ?_⟩
    rw [(dL d).eqv]
    exact k _ F H (Ext.refl f) rfl⟩⟩
/-- is None -/
theorem o_isN {r : R α} : O2 C (compareOp .Is) (vS (rO r)) (vS rN) (vS rB) (fun x _ => some x.isNone) :=
  ⟨fun X hX => ⟨_, op_isN, fun F H u v x y z Q f h1 h2 e k => by
    cases e
    refine ⟨h2, ?_⟩
    cases x with
    | none =>
      cases (show u = V.non from h1)
      exact k _ F H (Ext.refl f) rfl
    | some w =>
      rw [decide_eq_false (show ¬ u = V.non from h1.1)]
      exact k _ F H (Ext.refl f) rfl⟩⟩
theorem o_notN {r : R α} : O2 C (compareOp .IsNot) (vS (rO r)) (vS rN) (vS rB) (fun x _ => some x.isSome) :=
  ⟨fun X hX => ⟨_, op_notN, fun F H u v x y z Q f h1 h2 e k => by
    cases e
    refine ⟨h2, ?_⟩
    cases x with
    | none =>
      cases (show u = V.non from h1)
      exact k _ F H (Ext.refl f) rfl
    | some w =>
      rw [decide_eq_false (show ¬ u = V.non from h1.1)]
      exact k _ F H (Ext.refl f) rfl⟩⟩

/-! ### subscripts -/
def atG (xs : List α) (i : Int) : Option α := atI xs i
theorem ixN_at {n : Nat} {i : Int} {j : Nat} {xs : List α} (h : atI xs i = some (x : α)) : ∃ j, ixN xs.length i = some j ∧ xs[j]? = some x := by
  unfold atI at h
  cases e : ixN xs.length i with
  | none => rw [e] at h; cases h
  | some j => rw [e] at h; exact ⟨j, rfl, h⟩
theorem at_all {p : V → α → Prop} {vs : List V} {xs : List α} {i : Int} {x : α} (h : All2 p vs xs) (e : atI xs i = some x) : ∃ v, atI vs i = some v ∧ p v x := by
  obtain ⟨j, h1, h2⟩ := ixN_at (n := 0) (i := i) (j := 0) e
  obtain ⟨v, h3, h4⟩ := h.get h2
  refine ⟨v, ?_, h4⟩
  unfold atI
  rw [h.len, h1]
  exact h3
theorem ex_ix {r : R α} {m : Option (List α)} {n : Option Int} (h1 : Ex C B Γ a (vQ r) m) (h2 : Ex C B Γ b (vS rI) n) (hs : PlainIx b := by intro _ _; rfl) : Ex C B Γ (.Subscript a b pos) (vS r) (b2 m n atG) := by
  intro X hX σ F H Q z at' hm k
  obtain ⟨x, y, hx, hy, hz⟩ := b2_some hm
  refine tE_of (pe_ix ix_seq pe_self pe_self hs) (h1 X hX σ F H _ x at' hx fun u F1 H1 x1 q1 => ?_)
  refine h2 X hX σ F1 H1 _ y (at'.ext x1) hy fun v F2 H2 x2 q2 => ?_
  obtain ⟨p, vs, e1, e2, e3, e4⟩ := (vQ r).up x2 q1
  obtain ⟨w, e5, e6⟩ := at_all e4 hz
  rcases e2 with e2 | e2
  · exact .inl ⟨p, vs, y, w, e1, q2, .inl (.inl e2), e5, k w F2 H2 (x1.trans x2) e6⟩
  · exact .inr (.inl ⟨p, vs, y, w, e1, q2, by rw [hX.K]; exact sqT_up x2.fh e2, e5, k w F2 H2 (x1.trans x2) e6⟩)
theorem ex_ix0 {r : R α} {x : List α} {y : Int} (h1 : Ex C B Γ a (vQ r) (some x)) (h2 : Ex C B Γ b (vS rI) (some y)) (hs : PlainIx b := by intro _ _; rfl) : Ex C B Γ (.Subscript a b pos) (vS r) (atG x y) := ex_ix h1 h2 hs
/-- a written place of a tuple -/
theorem ex_pl {α δ : Type} {r : R α} {q : R δ} {m : Option α} (f : α → δ) (i : Int) (h1 : Ex C B Γ a (vS r) m) (h2 : Ex C B Γ b (vS rI) (some i)) (hs : PlainIx b)
    (t : ∀ K F v x, r.rep K F v x → ∃ p vs w, v = .ref p ∧ SqT K F p vs ∧ atI vs i = some w ∧ q.rep K F w (f x)) : Ex C B Γ (.Subscript a b pos) (vS q) (m.map f) := by
  intro X hX σ F H Q z at' hm k
  cases m with
  | none => cases hm
  | some x =>
    cases hm
    refine tE_of (pe_ix ix_tup pe_self pe_self hs) (h1 X hX σ F H _ x at' rfl fun u F1 H1 x1 q1 => ?_)
    refine h2 X hX σ F1 H1 _ i (at'.ext x1) rfl fun v F2 H2 x2 q2 => ?_
    obtain ⟨p, vs, w, e1, e2, e3, e4⟩ := t _ _ _ _ (r.up x2.f q1)
    exact ⟨p, vs, i, w, e1, q2, by rw [hX.K]; exact sqT_up x2.fh e2, e3, k w F2 H2 (x1.trans x2) e4⟩
theorem ex_at0 {r : R α} {q : R β} {m : Option (α × β)} {j p2 : _} (h : Ex C B Γ a (vS (rP r q)) m) : Ex C B Γ (.Subscript a (.Constant (.int 0) j p2) pos) (vS r) (m.map (·.1)) :=
  ex_pl _ 0 h ex_int (fun _ _ => rfl) fun _ _ _ _ ⟨p, va, vb, h1, h2, h3, h4⟩ => ⟨p, _, va, h1, h2, rfl, h3⟩
theorem ex_at1 {r : R α} {q : R β} {m : Option (α × β)} {j p2 : _} (h : Ex C B Γ a (vS (rP r q)) m) : Ex C B Γ (.Subscript a (.Constant (.int 1) j p2) pos) (vS q) (m.map (·.2)) :=
  ex_pl _ 1 h ex_int (fun _ _ => rfl) fun _ _ _ _ ⟨p, va, vb, h1, h2, h3, h4⟩ => ⟨p, _, vb, h1, h2, rfl, h4⟩
theorem ex_at00 {r : R α} {q : R β} {x : α × β} {j p2 : _} (h : Ex C B Γ a (vS (rP r q)) (some x)) : Ex C B Γ (.Subscript a (.Constant (.int 0) j p2) pos) (vS r) (some x.1) := ex_at0 h
theorem ex_at10 {r : R α} {q : R β} {x : α × β} {j p2 : _} (h : Ex C B Γ a (vS (rP r q)) (some x)) : Ex C B Γ (.Subscript a (.Constant (.int 1) j p2) pos) (vS q) (some x.2) := ex_at1 h
section
variable {δ : Type} {r : R α} {q : R β} {s : R γ} {t : R δ} {j : _} {p2 : Pos}
theorem ex_3at0 {m : Option (α × β × γ)} (h : Ex C B Γ a (vS (rP3 r q s)) m) : Ex C B Γ (.Subscript a (.Constant (.int 0) j p2) pos) (vS r) (m.map (·.1)) :=
  ex_pl _ 0 h ex_int (fun _ _ => rfl) fun _ _ _ _ ⟨p, va, vb, vc, h1, h2, h3, h4, h5⟩ => ⟨p, _, va, h1, h2, rfl, h3⟩
theorem ex_3at1 {m : Option (α × β × γ)} (h : Ex C B Γ a (vS (rP3 r q s)) m) : Ex C B Γ (.Subscript a (.Constant (.int 1) j p2) pos) (vS q) (m.map (·.2.1)) :=
  ex_pl _ 1 h ex_int (fun _ _ => rfl) fun _ _ _ _ ⟨p, va, vb, vc, h1, h2, h3, h4, h5⟩ => ⟨p, _, vb, h1, h2, rfl, h4⟩
theorem ex_3at2 {m : Option (α × β × γ)} (h : Ex C B Γ a (vS (rP3 r q s)) m) : Ex C B Γ (.Subscript a (.Constant (.int 2) j p2) pos) (vS s) (m.map (·.2.2)) :=
  ex_pl _ 2 h ex_int (fun _ _ => rfl) fun _ _ _ _ ⟨p, va, vb, vc, h1, h2, h3, h4, h5⟩ => ⟨p, _, vc, h1, h2, rfl, h5⟩
theorem ex_4at0 {m : Option (α × β × γ × δ)} (h : Ex C B Γ a (vS (rP4 r q s t)) m) : Ex C B Γ (.Subscript a (.Constant (.int 0) j p2) pos) (vS r) (m.map (·.1)) :=
  ex_pl _ 0 h ex_int (fun _ _ => rfl) fun _ _ _ _ ⟨p, va, vb, vc, vd, h1, h2, h3, h4, h5, h6⟩ => ⟨p, _, va, h1, h2, rfl, h3⟩
theorem ex_4at1 {m : Option (α × β × γ × δ)} (h : Ex C B Γ a (vS (rP4 r q s t)) m) : Ex C B Γ (.Subscript a (.Constant (.int 1) j p2) pos) (vS q) (m.map (·.2.1)) :=
  ex_pl _ 1 h ex_int (fun _ _ => rfl) fun _ _ _ _ ⟨p, va, vb, vc, vd, h1, h2, h3, h4, h5, h6⟩ => ⟨p, _, vb, h1, h2, rfl, h4⟩
theorem ex_4at2 {m : Option (α × β × γ × δ)} (h : Ex C B Γ a (vS (rP4 r q s t)) m) : Ex C B Γ (.Subscript a (.Constant (.int 2) j p2) pos) (vS s) (m.map (·.2.2.1)) :=
  ex_pl _ 2 h ex_int (fun _ _ => rfl) fun _ _ _ _ ⟨p, va, vb, vc, vd, h1, h2, h3, h4, h5, h6⟩ => ⟨p, _, vc, h1, h2, rfl, h5⟩
theorem ex_4at3 {m : Option (α × β × γ × δ)} (h : Ex C B Γ a (vS (rP4 r q s t)) m) : Ex C B Γ (.Subscript a (.Constant (.int 3) j p2) pos) (vS t) (m.map (·.2.2.2)) :=
  ex_pl _ 3 h ex_int (fun _ _ => rfl) fun _ _ _ _ ⟨p, va, vb, vc, vd, h1, h2, h3, h4, h5, h6⟩ => ⟨p, _, vd, h1, h2, rfl, h6⟩
theorem ex_3at00 {x : α × β × γ} (h : Ex C B Γ a (vS (rP3 r q s)) (some x)) : Ex C B Γ (.Subscript a (.Constant (.int 0) j p2) pos) (vS r) (some x.1) := ex_3at0 h
theorem ex_3at10 {x : α × β × γ} (h : Ex C B Γ a (vS (rP3 r q s)) (some x)) : Ex C B Γ (.Subscript a (.Constant (.int 1) j p2) pos) (vS q) (some x.2.1) := ex_3at1 h
theorem ex_3at20 {x : α × β × γ} (h : Ex C B Γ a (vS (rP3 r q s)) (some x)) : Ex C B Γ (.Subscript a (.Constant (.int 2) j p2) pos) (vS s) (some x.2.2) := ex_3at2 h
theorem ex_4at00 {x : α × β × γ × δ} (h : Ex C B Γ a (vS (rP4 r q s t)) (some x)) : Ex C B Γ (.Subscript a (.Constant (.int 0) j p2) pos) (vS r) (some x.1) := ex_4at0 h
theorem ex_4at10 {x : α × β × γ × δ} (h : Ex C B Γ a (vS (rP4 r q s t)) (some x)) : Ex C B Γ (.Subscript a (.Constant (.int 1) j p2) pos) (vS q) (some x.2.1) := ex_4at1 h
theorem ex_4at20 {x : α × β × γ × δ} (h : Ex C B Γ a (vS (rP4 r q s t)) (some x)) : Ex C B Γ (.Subscript a (.Constant (.int 2) j p2) pos) (vS s) (some x.2.2.1) := ex_4at2 h
theorem ex_4at30 {x : α × β × γ × δ} (h : Ex C B Γ a (vS (rP4 r q s t)) (some x)) : Ex C B Γ (.Subscript a (.Constant (.int 3) j p2) pos) (vS t) (some x.2.2.2) := ex_4at3 h
end
/-- slices: a part of bounds -/
def Pt (C : Cc) (B : Bs) (Γ : List Sl) (e : Option Expr) (m : Option (Option Int)) : Prop :=
  ∀ X, Is C X → ∀ (σ : St) (F H : Hp) (x : Option Int), At C.K B Γ F H σ → m = some x → ∃ t, PO X e t ∧ ∀ (Q : Option Int → Hp → Prop), (∀ F' H', Ext F H F' H' → Q x H') → t σ H Q
theorem pt_none : Pt C B Γ none (some none) := by
  intro X hX σ F H x a hm
  cases hm
  exact ⟨_, po_none, fun Q k => k F H (Ext.refl a.fh)⟩
theorem pt_some {m : Option Int} (h : Ex C B Γ e (vS rI) m) : Pt C B Γ (some e) (m.map some) := by
  intro X hX σ F H x a hm
  cases m with
  | none => cases hm
  | some i =>
    cases hm
    exact ⟨_, po_some pe_self, fun Q k => h X hX σ F H _ i a rfl fun v F' H' x q => ⟨i, q, k F' H' x⟩⟩
theorem pt_some0 {i : Int} (h : Ex C B Γ e (vS rI) (some i)) : Pt C B Γ (some e) (some (some i)) := pt_some h
end
end L2.T
set_option Elab.async false
set_option linter.all false
set_option maxRecDepth 100000
/-! Slices, calls. -/
namespace L2.T
open PySem PySem.Spec PyProof.Rows
section
variable {C : Cc} {B : Bs} {Γ : List Sl} {α β γ τ : Type} {e a b : Expr} {es : List Expr} {pos : Pos}
/-! ### slices -/
def cut (xs : List α) (lo hi : Option Int) : List α := (xs.drop (HT.sIx xs.length 0 lo)).take (HT.sIx xs.length xs.length hi - HT.sIx xs.length 0 lo)
theorem cut_all {p : V → α → Prop} {vs : List V} {xs : List α} (h : All2 p vs xs) (lo hi : Option Int) : All2 p (cutV vs lo hi) (cut xs lo hi) := by
  unfold cutV cut
  rw [h.len]
  exact All2.take _ (All2.drop _ h)
theorem ex_slF {lo hi : Option Expr} {p2 : _} {r : R α} {m : Option (List α)} {l h : Option (Option Int)} (h1 : Ex C B Γ a (vL r) m) (h2 : Pt C B Γ lo l) (h3 : Pt C B Γ hi h) :
    ExF C B Γ (.Subscript a (.Slice lo hi none p2) pos) (oL r) (m.bind fun x => b2 l h fun y z => some (cut x y z)) := by
  intro X hX σ F H Q z at' hm k
  obtain ⟨x, hx, hz⟩ := bd_some hm
  obtain ⟨y, w, hy, hw, hz⟩ := b2_some hz
  cases hz
  have t2 : PO X lo (fun σ H Q => ∀ F, At C.K B Γ F H σ → ∀ R : Option Int → Hp → Prop, (∀ x H, R x H → Q x H) → (∀ F' H', Ext F H F' H' → R y H') → True) ∨ True := .inr trivial
  have key : ∀ (lo : Option Expr) (l : Option (Option Int)) (y : Option Int), Pt C B Γ lo l → l = some y → PO X lo (fun σ H Q => ∃ F, At C.K B Γ F H σ ∧ ∀ F' H', Ext F H F' H' → Q y H') := fun lo l y h e =>
    ⟨fun pins s σ H Q I ⟨F, at1, q⟩ => by
      obtain ⟨t, ht, hk⟩ := h X hX σ F H y at1 e
      exact ht.run pins s σ H Q I (hk Q q)⟩
  refine tE_of (pe_slice sl_list pe_self (key lo l y h2 hy) (key hi h w h3 hw)) (h1 X hX σ F H _ x at' hx fun u F1 H1 x1 q1 => ?_)
  refine ⟨F1, at'.ext x1, fun F2 H2 x2 => ⟨F2, (at'.ext x1).ext x2, fun F3 H3 x3 => ?_⟩⟩
  obtain ⟨p, vs, e1, e2, e3, e4⟩ := (vL r).up (x2.trans x3) q1
  refine ⟨p, vs, e1, .inl (.inl e2), fun q nq => ?_⟩
  have x4 := Ext.own (o := .lst (cutV vs y w)) x3.fh nq
  exact k q _ _ _ (x1.trans (x2.trans (x3.trans x4))) (x1.h.free (x2.h.free (x3.h.free nq))) (x3.fh.free nq) upd_same ⟨_, rfl, Nat.le_trans (cutV_length _ _ _) e3, cut_all e4 y w⟩
theorem ex_slT {lo hi : Option Expr} {p2 : _} {r : R α} {m : Option (List α)} {l h : Option (Option Int)} (h1 : Ex C B Γ a (vS (rT r)) m) (h2 : Pt C B Γ lo l) (h3 : Pt C B Γ hi h) :
    Ex C B Γ (.Subscript a (.Slice lo hi none p2) pos) (vS (rT r)) (m.bind fun x => b2 l h fun y z => some (cut x y z)) := by
  intro X hX σ F H Q z at' hm k
  obtain ⟨x, hx, hz⟩ := bd_some hm
  obtain ⟨y, w, hy, hw, hz⟩ := b2_some hz
  cases hz
  have key : ∀ (lo : Option Expr) (l : Option (Option Int)) (y : Option Int), Pt C B Γ lo l → l = some y → PO X lo (fun σ H Q => ∃ F, At C.K B Γ F H σ ∧ ∀ F' H', Ext F H F' H' → Q y H') := fun lo l y h e =>
    ⟨fun pins s σ H Q I ⟨F, at1, q⟩ => by
      obtain ⟨t, ht, hk⟩ := h X hX σ F H y at1 e
      exact ht.run pins s σ H Q I (hk Q q)⟩
  refine tE_of (pe_slice sl_tupA pe_self (key lo l y h2 hy) (key hi h w h3 hw)) (h1 X hX σ F H _ x at' hx fun u F1 H1 x1 q1 => ?_)
  refine ⟨F1, at'.ext x1, fun F2 H2 x2 => ⟨F2, (at'.ext x1).ext x2, fun F3 H3 x3 => ?_⟩⟩
  have xx := x2.trans x3
  obtain ⟨p, vs, e1, e2, e3, e4⟩ := (vS (rT r)).up xx q1
  refine ⟨p, vs, e1, by rw [hX.K]; exact sqT_up x3.fh e2, fun hf => ?_, fun _ q nq => ?_⟩
  · have ev : cutV vs y w = vs := by
      unfold cutV
      rw [hf.1, hf.2, List.drop_zero, Nat.sub_zero, List.take_length]
    refine k (.ref p) F3 H3 (x1.trans xx) ⟨p, vs, rfl, e2, e3, ?_⟩
    have := cut_all e4 y w
    rw [ev] at this
    exact this
  · have x4 := Ext.new (o := .tup (cutV vs y w)) x3.fh nq
    exact k _ _ _ (x1.trans (xx.trans x4)) ⟨q, _, rfl, .inl (.inl upd_same), Nat.le_trans (cutV_length _ _ _) e3, All2.imp (fun _ _ z => r.up x4.f z) (cut_all e4 y w)⟩

/-! ### built-ins by values -/
structure Cl (C : Cc) (f : Value) {τ β : Type} (ar : Ar τ) (M : Vp β) (g : τ → Option β) : Prop where
  run : ∀ X, Is C X → ∃ rr : List V → Hp → VK → Prop, CallR X f rr ∧ ∀ (F H : Hp) (vs : List V) (t : τ) (z : β) (Q : VK), Same F H → ar.p C.K F H vs t → g t = some z →
    (∀ w F' H', Ext F H F' H' → M.p C.K F' H' w z → Q w H') → rr vs H Q
structure ClF (C : Cc) (f : Value) {τ β : Type} (ar : Ar τ) (M : Ob β) (g : τ → Option β) : Prop where
  run : ∀ X, Is C X → ∃ rr : List V → Hp → VK → Prop, CallR X f rr ∧ ∀ (F H : Hp) (vs : List V) (t : τ) (z : β) (Q : VK), Same F H → ar.p C.K F H vs t → g t = some z →
    (∀ p ho F' H', Ext F H F' H' → H p = none → F' p = none → H' p = some ho → M.rep C.K F' p ho z → Q (.ref p) H') → rr vs H Q
def StE (e : Expr) (es : List Expr) : Prop := (∀ env : Env, starEach (e :: es) env = (false, eval e env) :: starEach es env) ∧ ∀ (pos : Pos) (env : Env), (backTo pos (starEach es env)).any (·.1) = false
theorem ex_callB {x : Str} {p : Pos} {id : String} {ar : Ar τ} {M : Vp β} {g : τ → Option β} {m : Option τ} (c : Cl C (.builtin id) ar M g) (hm : C.mg x = none) (hv : bootBuiltins x = some (.builtin id)) (ha : Ea C B Γ (e :: es) ar m)
    (hg : C.sc.names.lookup x = some .globalImplicit := by rfl) (hst : StE e es := by exact ⟨fun _ => rfl, fun _ _ => rfl⟩) (hn : x ≠ "__name__" := by decide) (hdb : (x == ("__debug__" : Str)) = false := by decide) : Ex C B Γ (.Call (.Name x p) (e :: es) [] pos) M (m.bind g) := by
  intro X hX σ F H Q z at' hmm k
  obtain ⟨t, ht, hz⟩ := bd_some hmm
  obtain ⟨rr, hc, hr⟩ := c.run X hX
  refine tE_of (pe_callB hc (gl_of hX hg) (by rw [hX.mg]; exact hm) hv pa_self hn hdb (hst.1 X.env) (hst.2 _ X.env)) (ha X hX σ F H _ t at' ht fun vs F1 H1 x1 q1 => ?_)
  exact hr F1 H1 vs t z Q x1.fh q1 hz fun w F' H' x2 q2 => k w F' H' (x1.trans x2) q2
theorem ex_callB0 {x : Str} {p : Pos} {id : String} {ar : Ar τ} {M : Vp β} {g : τ → Option β} {t : τ} (c : Cl C (.builtin id) ar M g) (hm : C.mg x = none) (hv : bootBuiltins x = some (.builtin id)) (ha : Ea C B Γ (e :: es) ar (some t))
    (hg : C.sc.names.lookup x = some .globalImplicit := by rfl) (hst : StE e es := by exact ⟨fun _ => rfl, fun _ _ => rfl⟩) (hn : x ≠ "__name__" := by decide) (hdb : (x == ("__debug__" : Str)) = false := by decide) {m : Option β} (hr : g t = m := by rfl) : Ex C B Γ (.Call (.Name x p) (e :: es) [] pos) M m := hr ▸ ex_callB (m := some t) c hm hv ha hg hst hn hdb
theorem ex_callBF {x : Str} {p : Pos} {id : String} {ar : Ar τ} {M : Ob β} {g : τ → Option β} {m : Option τ} (c : ClF C (.builtin id) ar M g) (hm : C.mg x = none) (hv : bootBuiltins x = some (.builtin id)) (ha : Ea C B Γ (e :: es) ar m)
    (hg : C.sc.names.lookup x = some .globalImplicit := by rfl) (hst : StE e es := by exact ⟨fun _ => rfl, fun _ _ => rfl⟩) (hn : x ≠ "__name__" := by decide) (hdb : (x == ("__debug__" : Str)) = false := by decide) : ExF C B Γ (.Call (.Name x p) (e :: es) [] pos) M (m.bind g) := by
  intro X hX σ F H Q z at' hmm k
  obtain ⟨t, ht, hz⟩ := bd_some hmm
  obtain ⟨rr, hc, hr⟩ := c.run X hX
  refine tE_of (pe_callB hc (gl_of hX hg) (by rw [hX.mg]; exact hm) hv pa_self hn hdb (hst.1 X.env) (hst.2 _ X.env)) (ha X hX σ F H _ t at' ht fun vs F1 H1 x1 q1 => ?_)
  exact hr F1 H1 vs t z Q x1.fh q1 hz fun p w F' H' x2 n1 n2 n3 q2 => k p w F' H' (x1.trans x2) (x1.h.free n1) n2 n3 q2
theorem ex_callT {x : Str} {p : Pos} {id : String} {ar : Ar τ} {M : Vp β} {g : τ → Option β} {m : Option τ} (c : Cl C (.type id) ar M g) (hm : C.mg x = none) (hv : bootBuiltins x = some (.type id)) (ha : Ea C B Γ (e :: es) ar m)
    (hg : C.sc.names.lookup x = some .globalImplicit := by rfl) (hst : StE e es := by exact ⟨fun _ => rfl, fun _ _ => rfl⟩) (hn : x ≠ "__name__" := by decide) (hdb : (x == ("__debug__" : Str)) = false := by decide) : Ex C B Γ (.Call (.Name x p) (e :: es) [] pos) M (m.bind g) := by
  intro X hX σ F H Q z at' hmm k
  obtain ⟨t, ht, hz⟩ := bd_some hmm
  obtain ⟨rr, hc, hr⟩ := c.run X hX
  refine tE_of (pe_callTy hc (gl_of hX hg) (by rw [hX.mg]; exact hm) hv pa_self hn hdb (hst.1 X.env) (hst.2 _ X.env)) (ha X hX σ F H _ t at' ht fun vs F1 H1 x1 q1 => ?_)
  exact hr F1 H1 vs t z Q x1.fh q1 hz fun w F' H' x2 q2 => k w F' H' (x1.trans x2) q2
theorem ex_callT0 {x : Str} {p : Pos} {id : String} {ar : Ar τ} {M : Vp β} {g : τ → Option β} {t : τ} (c : Cl C (.type id) ar M g) (hm : C.mg x = none) (hv : bootBuiltins x = some (.type id)) (ha : Ea C B Γ (e :: es) ar (some t))
    (hg : C.sc.names.lookup x = some .globalImplicit := by rfl) (hst : StE e es := by exact ⟨fun _ => rfl, fun _ _ => rfl⟩) (hn : x ≠ "__name__" := by decide) (hdb : (x == ("__debug__" : Str)) = false := by decide) {m : Option β} (hr : g t = m := by rfl) : Ex C B Γ (.Call (.Name x p) (e :: es) [] pos) M m := hr ▸ ex_callT (m := some t) c hm hv ha hg hst hn hdb
theorem ex_callTF {x : Str} {p : Pos} {id : String} {ar : Ar τ} {M : Ob β} {g : τ → Option β} {m : Option τ} (c : ClF C (.type id) ar M g) (hm : C.mg x = none) (hv : bootBuiltins x = some (.type id)) (ha : Ea C B Γ (e :: es) ar m)
    (hg : C.sc.names.lookup x = some .globalImplicit := by rfl) (hst : StE e es := by exact ⟨fun _ => rfl, fun _ _ => rfl⟩) (hn : x ≠ "__name__" := by decide) (hdb : (x == ("__debug__" : Str)) = false := by decide) : ExF C B Γ (.Call (.Name x p) (e :: es) [] pos) M (m.bind g) := by
  intro X hX σ F H Q z at' hmm k
  obtain ⟨t, ht, hz⟩ := bd_some hmm
  obtain ⟨rr, hc, hr⟩ := c.run X hX
  refine tE_of (pe_callTy hc (gl_of hX hg) (by rw [hX.mg]; exact hm) hv pa_self hn hdb (hst.1 X.env) (hst.2 _ X.env)) (ha X hX σ F H _ t at' ht fun vs F1 H1 x1 q1 => ?_)
  exact hr F1 H1 vs t z Q x1.fh q1 hz fun p w F' H' x2 n1 n2 n3 q2 => k p w F' H' (x1.trans x2) (x1.h.free n1) n2 n3 q2
/-- a built-in function that a name of the module holds (from math import gcd) -/
theorem ex_callG {x : Str} {p : Pos} {id : String} {ar : Ar τ} {M : Vp β} {g : τ → Option β} {m : Option τ} (c : Cl C (.builtin id) ar M g) (hm : C.mg x = some (.builtin id)) (ha : Ea C B Γ (e :: es) ar m)
    (hg : C.sc.names.lookup x = some .globalImplicit := by rfl) (hst : StE e es := by exact ⟨fun _ => rfl, fun _ _ => rfl⟩) (hdb : (x == ("__debug__" : Str)) = false := by decide) : Ex C B Γ (.Call (.Name x p) (e :: es) [] pos) M (m.bind g) := by
  intro X hX σ F H Q z at' hmm k
  obtain ⟨t, ht, hz⟩ := bd_some hmm
  obtain ⟨rr, hc, hr⟩ := c.run X hX
  refine tE_of (pe_callBfun hc (gl_of hX hg) (by rw [hX.mg]; exact hm) pa_self hdb (hst.1 X.env) (hst.2 _ X.env)) (ha X hX σ F H _ t at' ht fun vs F1 H1 x1 q1 => ?_)
  exact hr F1 H1 vs t z Q x1.fh q1 hz fun w F' H' x2 q2 => k w F' H' (x1.trans x2) q2

/-! ### the built-ins -/
abbrev A1 (M : Vp α) : Ar (α × Unit) := aC M aN
abbrev A2 (M : Vp α) (N : Vp β) : Ar (α × β × Unit) := aC M (aC N aN)
theorem c_len {r : R α} : Cl C (.builtin "len") (A1 (vQ r)) (vS rI) (fun t => some (t.1.length : Int)) :=
  ⟨fun X hX => ⟨_, call_len_seq, fun F H vs t z Q f ⟨v, ws, e1, ⟨p, us, e2, e3, e4, e5⟩, e6⟩ e k => by
    cases e; subst e6; subst e2; subst e1
    refine ⟨p, us, rfl, ?_, ?_⟩
    · rcases e3 with e3 | e3
      · exact .inl (.inl (.inl e3))
      · exact .inr (by rw [hX.K]; exact sqT_up f e3)
    · rw [e5.len]; exact k _ F H (Ext.refl f) rfl⟩⟩
/-- len of the script -/
theorem c_lenZ : Cl C (.builtin "len") (A1 (vS rZ)) (vS rI) (fun t => some (t.1.length : Int)) :=
  ⟨fun X hX => ⟨_, call_len_seq, fun F H vs t z Q f ⟨v, ws, e1, ⟨p, e2, e3, e4⟩, e6⟩ e k => by
    cases e; subst e6; subst e2; subst e1
    refine ⟨p, _, rfl, .inl (by rw [hX.K]; exact Same.seq f e3), ?_⟩
    rw [List.length_map]; exact k _ F H (Ext.refl f) rfl⟩⟩
theorem ex_ixZ {m : Option (List Int)} {n : Option Int} (h1 : Ex C B Γ a (vS rZ) m) (h2 : Ex C B Γ b (vS rI) n) (hs : PlainIx b := by intro _ _; rfl) : Ex C B Γ (.Subscript a b pos) (vS rI) (b2 m n atG) := by
  intro X hX σ F H Q z at' hm k
  obtain ⟨x, y, hx, hy, hz⟩ := b2_some hm
  refine tE_of (pe_ix ix_list pe_self pe_self hs) (h1 X hX σ F H _ x at' hx fun u F1 H1 x1 q1 => ?_)
  refine h2 X hX σ F1 H1 _ y (at'.ext x1) hy fun v F2 H2 x2 q2 => ?_
  obtain ⟨p, e1, e2, e3⟩ := (vS rZ).up x2 q1
  obtain ⟨w, e5, e6⟩ := at_all (All2.ofInts x) hz
  exact ⟨p, _, y, w, e1, q2, by rw [hX.K]; exact Same.seq x2.fh e2, e5, k w F2 H2 (x1.trans x2) e6⟩
theorem c_abs : Cl C (.builtin "abs") (A1 (vS rI)) (vS rI) (fun t => some (if t.1 < 0 then -t.1 else t.1)) :=
  ⟨fun X hX => ⟨_, call_abs, fun F H vs t z Q f ⟨v, ws, e1, e2, e3⟩ e k => by
    cases e; subst e3; cases e2; subst e1
    exact ⟨_, rfl, k _ F H (Ext.refl f) rfl⟩⟩⟩
theorem c_int : Cl C (.type "int") (A1 (vS rI)) (vS rI) (fun t => some t.1) :=
  ⟨fun X hX => ⟨_, call_int1, fun F H vs t z Q f ⟨v, ws, e1, e2, e3⟩ e k => by
    cases e; subst e3; cases e2; subst e1
    exact .inl ⟨_, rfl, k _ F H (Ext.refl f) rfl⟩⟩⟩
theorem c_intB : Cl C (.type "int") (A1 (vS rB)) (vS rI) (fun t => some (if t.1 = true then 1 else 0)) :=
  ⟨fun X hX => ⟨_, call_int1, fun F H vs t z Q f ⟨v, ws, e1, e2, e3⟩ e k => by
    cases e; subst e3; cases e2; subst e1
    exact .inr ⟨_, rfl, k _ F H (Ext.refl f) rfl⟩⟩⟩
theorem c_min2 : Cl C (.builtin "min") (A2 (vS rI) (vS rI)) (vS rI) (fun t => some (if t.2.1 < t.1 then t.2.1 else t.1)) :=
  ⟨fun X hX => ⟨_, call_min2 hX.calm, fun F H vs t z Q f ⟨v, ws, e1, e2, w, us, e3, e4, e5⟩ e k => by
    cases e; subst e5; cases e4; subst e3; cases e2; subst e1
    exact ⟨_, _, rfl, k _ F H (Ext.refl f) rfl⟩⟩⟩
theorem c_max2 : Cl C (.builtin "max") (A2 (vS rI) (vS rI)) (vS rI) (fun t => some (if t.2.1 > t.1 then t.2.1 else t.1)) :=
  ⟨fun X hX => ⟨_, call_max2 hX.calm, fun F H vs t z Q f ⟨v, ws, e1, e2, w, us, e3, e4, e5⟩ e k => by
    cases e; subst e5; cases e4; subst e3; cases e2; subst e1
    exact ⟨_, _, rfl, k _ F H (Ext.refl f) rfl⟩⟩⟩
theorem c_gcd : Cl C (.builtin "math.gcd") (A2 (vS rI) (vS rI)) (vS rI) (fun t => some ((Nat.gcd t.1.natAbs t.2.1.natAbs : Nat) : Int)) :=
  ⟨fun X hX => ⟨_, cr_gcd, fun F H vs t z Q f ⟨v, ws, e1, e2, w, us, e3, e4, e5⟩ e k => by
    cases e; subst e5; cases e4; subst e3; cases e2; subst e1
    exact ⟨_, _, rfl, k _ F H (Ext.refl f) rfl⟩⟩⟩
theorem sqQ {K : Fg} {F H : Hp} {p : Addr} {us : List V} (f : Same F H) (e : H p = some (.lst us) ∨ SqT K F p us) : SqL K H p us ∨ SqT K H p us := e.elim (fun z => .inl (.inl (.inl z))) fun z => .inr (sqT_up f z)
theorem c_tuple {r : R α} : Cl C (.type "tuple") (A1 (vQ r)) (vS (rT r)) (fun t => some t.1) :=
  ⟨fun X hX => ⟨_, call_tuple_of, fun F H vs t z Q f ⟨v, ws, e1, ⟨p, us, e2, e3, e4, e5⟩, e6⟩ e k => by
    cases e; subst e6; subst e2; subst e1
    refine ⟨p, us, rfl, ?_⟩
    rcases e3 with e3 | e3
    · refine .inl ⟨.inl (.inl e3), fun l hl => ?_⟩
      have x := Ext.new (o := .tup us) f hl
      exact k _ _ _ x ⟨l, us, rfl, .inl (.inl upd_same), e4, All2.imp (fun _ _ z => r.up x.f z) e5⟩
    · exact .inr ⟨by rw [hX.K]; exact sqT_up f e3, k _ F H (Ext.refl f) ⟨p, us, rfl, e3, e4, e5⟩⟩⟩⟩
theorem c_list {r : R α} : ClF C (.type "list") (A1 (vQ r)) (oL r) (fun t => some t.1) :=
  ⟨fun X hX => ⟨_, call_list_of, fun F H vs t z Q f ⟨v, ws, e1, ⟨p, us, e2, e3, e4, e5⟩, e6⟩ e k => by
    cases e; subst e6; subst e2; subst e1
    refine ⟨p, us, rfl, by rw [hX.K]; exact sqQ f e3, fun l hl => ?_⟩
    have x := Ext.own (o := .lst us) f hl
    exact k l _ _ _ x hl (f.free hl) upd_same ⟨us, rfl, e4, e5⟩⟩⟩
theorem sortedI_eq {xs ys : List Int} (h : ys.Perm xs) (hs : ys.Pairwise (· ≤ ·)) : ys = xs.mergeSort (fun a b => decide (a ≤ b)) := by
  have h1 : (xs.mergeSort (fun a b => decide (a ≤ b))).Perm xs := List.mergeSort_perm _ _
  have h2 := List.pairwise_mergeSort (le := fun a b : Int => decide (a ≤ b)) (fun a b c h1 h2 => by simp at h1 h2 ⊢; omega) (fun a b => by simp; omega) xs
  refine (h.trans h1.symm).eq_of_pairwise (le := fun a b : Int => a ≤ b) (fun a b _ _ h1 h2 => Int.le_antisymm h1 h2) hs (h2.imp fun h => by simpa using h)
def srtI (xs : List Int) : List Int := xs.mergeSort (fun a b => decide (a ≤ b))
theorem c_sorted : ClF C (.builtin "sorted") (A1 (vL rI)) (oL rI) (fun t => some (srtI t.1)) :=
  ⟨fun X hX => ⟨_, cr_sortedI, fun F H vs t z Q f ⟨v, ws, e1, ⟨p, us, e2, e3, e4, e5⟩, e6⟩ e k => by
    cases e; subst e6; subst e2; subst e1
    have eu := All2.ints e5
    subst eu
    refine ⟨p, t.1, rfl, .inl (.inl e3), fun ns' l hp hs hl => ?_⟩
    have x := Ext.own (o := .lst (ns'.map V.int)) f hl
    have en := sortedI_eq hp hs
    refine k l _ _ _ x hl (f.free hl) upd_same ⟨_, rfl, ?_, ?_⟩
    · rw [List.length_map, hp.length_eq]; rw [List.length_map] at e4; exact e4
    · show All2 _ (ns'.map V.int) (srtI t.1)
      unfold srtI
      rw [← en]
      exact All2.ofInts ns'⟩⟩
theorem All2.bls : ∀ {vs : List V} {xs : List Bool}, All2 (fun v x => v = V.bl x) vs xs → vs = xs.map V.bl
  | [], [], _ => rfl
  | _ :: _, _ :: _, a => by rw [List.map_cons, a.1, All2.bls a.2]
  | [], _ :: _, a => a.elim
  | _ :: _, [], a => a.elim
theorem c_any : Cl C (.builtin "any") (A1 (vL rB)) (vS rB) (fun t => some (t.1.any id)) :=
  ⟨fun X hX => ⟨_, cr_any hX.calm, fun F H vs t z Q f ⟨v, ws, e1, ⟨p, us, e2, e3, e4, e5⟩, e6⟩ e k => by
    cases e; subst e6; subst e2; subst e1
    have eu := All2.bls e5
    subst eu
    exact ⟨p, t.1, rfl, .inl (.inl e3), k _ F H (Ext.refl f) rfl⟩⟩⟩
theorem c_all : Cl C (.builtin "all") (A1 (vL rB)) (vS rB) (fun t => some (t.1.all id)) :=
  ⟨fun X hX => ⟨_, cr_all hX.calm, fun F H vs t z Q f ⟨v, ws, e1, ⟨p, us, e2, e3, e4, e5⟩, e6⟩ e k => by
    cases e; subst e6; subst e2; subst e1
    have eu := All2.bls e5
    subst eu
    exact ⟨p, t.1, rfl, .inl (.inl e3), k _ F H (Ext.refl f) rfl⟩⟩⟩
theorem c_sum : Cl C (.builtin "sum") (A1 (vL rI)) (vS rI) (fun t => some t.1.sum) :=
  ⟨fun X hX => ⟨_, cr_sum hX.calm, fun F H vs t z Q f ⟨v, ws, e1, ⟨p, us, e2, e3, e4, e5⟩, e6⟩ e k => by
    cases e; subst e6; subst e2; subst e1
    have eu := All2.ints e5
    subst eu
    exact ⟨p, t.1, rfl, .inl (.inl e3), k _ F H (Ext.refl f) rfl⟩⟩⟩
/-- list(range(a)), list(range(a, b)) -/
def rgL (a b : Int) : List Int := (List.range (b - a).toNat).map fun i => a + (i : Nat)
def rgG (a b : Int) : Option (List Int) := if 0 ≤ a ∧ a ≤ 16777216 ∧ 0 ≤ b ∧ b ≤ 16777216 then some (rgL a b) else none
theorem rgV_eq (a b : Int) : rgV a b = (rgL a b).map V.int := by unfold rgV rgL; rw [List.map_map]; rfl
theorem ex_listRg1 {p p3 pos2 : Pos} {m : Option Int} (hl : C.mg ("list" : Str) = none) (hr : C.mg ("range" : Str) = none) (h : Ex C B Γ a (vS rI) m) (hg1 : C.sc.names.lookup ("list" : Str) = some .globalImplicit := by rfl) (hg2 : C.sc.names.lookup ("range" : Str) = some .globalImplicit := by rfl)
    (hst : StE a [] := by exact ⟨fun _ => rfl, fun _ _ => rfl⟩) :
    ExF C B Γ (.Call (.Name "list" p) [.Call (.Name "range" p3) [a] [] pos2] [] pos) (oL rI) (m.bind fun n => rgG 0 n) := by
  intro X hX σ F H Q z at' hmm k
  obtain ⟨n, hn, hz⟩ := bd_some hmm
  unfold rgG at hz
  split at hz
  · rename_i hb
    cases hz
    refine tE_of (pe_listRg hX.calm (gl_of hX hg1) (by rw [hX.mg]; exact hl) (prg_1 (gl_of hX hg2) (by rw [hX.mg]; exact hr) pe_self (hst.1 X.env))) (h X hX σ F H _ n at' hn fun u F1 H1 x1 q1 => ?_)
    refine ⟨n, q1, RgOk.of_le hb.1 hb.2.2.2 hb.2.1 hb.2.2.1, fun q nq => ?_⟩
    have x2 := Ext.own (o := .lst (rgV 0 n)) x1.fh nq
    refine k q _ _ _ (x1.trans x2) (x1.h.free nq) (x1.fh.free nq) upd_same ⟨_, rfl, ?_, ?_⟩
    · rw [rgV_length, sizeLine_eq]; omega
    · rw [rgV_eq]; exact All2.ofInts _
  · cases hz
/-- list + list -/
def catG (xs ys : List α) : Option (List α) := if xs.length + ys.length ≤ sizeLine then some (xs ++ ys) else none
theorem o_cat {r : R α} : O2F C (binaryOp .Add) (vL r) (vL r) (oL r) catG :=
  ⟨fun X hX => ⟨_, op_cat, fun F H u v x y z Q f ⟨p, vs, p1, p2, p3, p4⟩ ⟨q, ws, q1, q2, q3, q4⟩ e k => by
    unfold catG at e
    split at e
    · rename_i hs
      cases e
      refine ⟨p, q, vs, ws, p1, q1, p2, q2, by rw [p4.len, q4.len]; exact hs, fun l hl => ?_⟩
      have x2 := Ext.own (o := .lst (vs ++ ws)) f hl
      exact k l _ _ _ x2 hl (f.free hl) upd_same ⟨_, rfl, by rw [List.length_append, p4.len, q4.len]; exact hs, All2.app p4 q4⟩
    · cases e⟩⟩
/-- tuple + tuple -/
theorem o_catT {r : R α} : O2 C (binaryOp .Add) (vS (rT r)) (vS (rT r)) (vS (rT r)) catG :=
  ⟨fun X hX => ⟨_, op_catA, fun F H u v x y z Q f ⟨p, vs, p1, p2, p3, p4⟩ ⟨q, ws, q1, q2, q3, q4⟩ e k => by
    unfold catG at e
    split at e
    · rename_i hs
      cases e
      refine ⟨p, q, vs, ws, p1, q1, by rw [hX.K]; exact sqT_up f p2, by rw [hX.K]; exact sqT_up f q2, by rw [p4.len, q4.len]; exact hs, fun e1 => ?_, fun _ e2 => ?_, fun _ _ l hl => ?_⟩
      · subst e1
        have ex : x = [] := by have := p4.len; simpa using this.symm
        subst ex
        exact k _ F H (Ext.refl f) ⟨q, ws, rfl, q2, q3, q4⟩
      · subst e2
        have ey : y = [] := by have := q4.len; simpa using this.symm
        subst ey
        refine k _ F H (Ext.refl f) ⟨p, vs, rfl, p2, p3, ?_⟩
        rw [List.append_nil]; exact p4
      · have x2 := Ext.new (o := .tup (vs ++ ws)) f hl
        exact k _ _ _ x2 ⟨l, _, rfl, .inl (.inl upd_same), by rw [List.length_append, p4.len, q4.len]; exact hs, All2.imp (fun _ _ z => r.up x2.f z) (All2.app p4 q4)⟩
    · cases e⟩⟩

/-! ### calls of defs -/
/-- how a def answers -/
def Rs (β : Type) := Fg → Hp → Hp → Hp → Hp → V → β → Prop
def resS (r : R β) : Rs β := fun K _ _ F' _ v y => r.rep K F' v y
def resF (r : Ob β) : Rs β := fun K _ H F' H' v y => ∃ p ho, v = .ref p ∧ H p = none ∧ F' p = none ∧ H' p = some ho ∧ r.rep K F' p ho y
/-- the promise of a def -/
def spT (K : Fg) (ar : Ar τ) (f : τ → Option β) (res : Rs β) : Sp := fun vs H Q _ => ∃ F x y, Same F H ∧ ar.p K F H vs x ∧ f x = some y ∧ ∀ v F' H', Ext F H F' H' → res K F H F' H' v y → Q v H'
/-- a def's promise, known where C stands -/
structure Fk (C : Cc) (x : Str) (n : Nat) (ar : Ar τ) (f : τ → Option β) (res : Rs β) : Prop where
  ex : ∃ (k : Nat) (a : Addr) (fd : FuncData) (ps : List Str) (dvs : List V) (ds : List Value) (sp : Sp), k ≤ C.k ∧ C.mg x = some (.ref a) ∧ PySem.W.keepIn C.K (.ref a) = true ∧ Binds C.K fd ps ds ∧ Vals dvs ds ∧
    FnOk C.P C.w C.K C.mg C.base CX0 k a fd ps sp ∧ ∀ vs H Q E, vs.length = n → spT C.K ar f res vs H Q E → sp (vs ++ dvs) H Q E
theorem ar_len0 {K : Fg} {F H : Hp} {vs : List V} {t : Unit} (h : aN.p K F H vs t) : vs.length = 0 := by cases h; rfl
theorem ex_call {x : Str} {p : Pos} {n : Nat} {ar : Ar τ} {r : R β} {f : τ → Option β} {m : Option τ} (G : Fk C x n ar f (resS r)) (ha : Ea C B Γ (e :: es) ar m) (hl : ∀ K F H vs t, ar.p K F H vs t → vs.length = n)
    (hg : C.sc.names.lookup x = some .globalImplicit := by rfl) (hst : StE e es := by exact ⟨fun _ => rfl, fun _ _ => rfl⟩) (hdb : (x == ("__debug__" : Str)) = false := by decide) : Ex C B Γ (.Call (.Name x p) (e :: es) [] pos) (vS r) (m.bind f) := by
  intro X hX σ F H Q z at' hmm k
  obtain ⟨t, ht, hz⟩ := bd_some hmm
  obtain ⟨kk, a, fd, ps, dvs, ds, sp, h1, h2, h3, h4, h5, h6, h7⟩ := G.ex
  obtain ⟨eP, ew, eK, em, eb⟩ := And.intro hX.P (And.intro hX.w (And.intro hX.K (And.intro hX.mg hX.base)))
  refine tE_of (pe_call (CX := CX0) (E := E0) (k := kk) (sp := sp) (by rw [eP, ew, eK, em, eb]; exact h6) (hX.room.mono h1) (gl_of hX hg) (by rw [em]; exact h2) (by rw [eK]; exact h3) (by rw [eK]; exact h4) h5 pass0 pa_self hdb (hst.1 X.env) (hst.2 _ X.env))
    (ha X hX σ F H _ t at' ht fun vs F1 H1 x1 q1 => ?_)
  exact h7 vs H1 Q _ (hl _ _ _ _ _ q1) ⟨F1, t, z, x1.fh, q1, hz, fun v F' H' x2 q2 => k v F' H' (x1.trans x2) q2⟩
theorem ex_call0 {x : Str} {p : Pos} {n : Nat} {ar : Ar τ} {r : R β} {f : τ → Option β} {t : τ} (G : Fk C x n ar f (resS r)) (ha : Ea C B Γ (e :: es) ar (some t)) (hl : ∀ K F H vs t, ar.p K F H vs t → vs.length = n)
    (hg : C.sc.names.lookup x = some .globalImplicit := by rfl) (hst : StE e es := by exact ⟨fun _ => rfl, fun _ _ => rfl⟩) (hdb : (x == ("__debug__" : Str)) = false := by decide) {m : Option β} (hr : f t = m := by rfl) : Ex C B Γ (.Call (.Name x p) (e :: es) [] pos) (vS r) m := hr ▸ ex_call (m := some t) G ha hl hg hst hdb
theorem ex_callF {x : Str} {p : Pos} {n : Nat} {ar : Ar τ} {r : Ob β} {f : τ → Option β} {m : Option τ} (G : Fk C x n ar f (resF r)) (ha : Ea C B Γ (e :: es) ar m) (hl : ∀ K F H vs t, ar.p K F H vs t → vs.length = n)
    (hg : C.sc.names.lookup x = some .globalImplicit := by rfl) (hst : StE e es := by exact ⟨fun _ => rfl, fun _ _ => rfl⟩) (hdb : (x == ("__debug__" : Str)) = false := by decide) : ExF C B Γ (.Call (.Name x p) (e :: es) [] pos) r (m.bind f) := by
  intro X hX σ F H Q z at' hmm k
  obtain ⟨t, ht, hz⟩ := bd_some hmm
  obtain ⟨kk, a, fd, ps, dvs, ds, sp, h1, h2, h3, h4, h5, h6, h7⟩ := G.ex
  obtain ⟨eP, ew, eK, em, eb⟩ := And.intro hX.P (And.intro hX.w (And.intro hX.K (And.intro hX.mg hX.base)))
  refine tE_of (pe_call (CX := CX0) (E := E0) (k := kk) (sp := sp) (by rw [eP, ew, eK, em, eb]; exact h6) (hX.room.mono h1) (gl_of hX hg) (by rw [em]; exact h2) (by rw [eK]; exact h3) (by rw [eK]; exact h4) h5 pass0 pa_self hdb (hst.1 X.env) (hst.2 _ X.env))
    (ha X hX σ F H _ t at' ht fun vs F1 H1 x1 q1 => ?_)
  exact h7 vs H1 Q _ (hl _ _ _ _ _ q1) ⟨F1, t, z, x1.fh, q1, hz, fun v F' H' x2 ⟨p, ho, e1, n1, n2, n3, q2⟩ => by subst e1; exact k p ho F' H' (x1.trans x2) (x1.h.free n1) n2 n3 q2⟩
theorem ex_callF0 {x : Str} {p : Pos} {n : Nat} {ar : Ar τ} {r : Ob β} {f : τ → Option β} {t : τ} (G : Fk C x n ar f (resF r)) (ha : Ea C B Γ (e :: es) ar (some t)) (hl : ∀ K F H vs t, ar.p K F H vs t → vs.length = n)
    (hg : C.sc.names.lookup x = some .globalImplicit := by rfl) (hst : StE e es := by exact ⟨fun _ => rfl, fun _ _ => rfl⟩) (hdb : (x == ("__debug__" : Str)) = false := by decide) {m : Option β} (hr : f t = m := by rfl) : ExF C B Γ (.Call (.Name x p) (e :: es) [] pos) r m := hr ▸ ex_callF (m := some t) G ha hl hg hst hdb
/-- the number of arguments -/
theorem al0 {K : Fg} {F H : Hp} {vs : List V} {t : Unit} (h : aN.p K F H vs t) : vs.length = 0 := by cases h; rfl
theorem alS {n : Nat} {M : Vp α} {ar : Ar τ} (h : ∀ K F H vs t, ar.p K F H vs t → vs.length = n) : ∀ K F H vs t, (aC M ar).p K F H vs t → vs.length = n + 1 := fun _ _ _ _ _ ⟨_, _, e, _, q⟩ => by
  subst e; exact congrArg (· + 1) (h _ _ _ _ _ q)
end
end L2.T
set_option Elab.async false
set_option linter.all false
set_option maxRecDepth 100000
/-! What is walked; targets; list comprehensions. -/
namespace L2.T
open PySem PySem.Spec PyProof.Rows

def tI (X : Cx) (tg iter : Expr) : TI := fun σ H R => ∀ (pins : List (Addr × Obj)) (s : Shared), Inv X pins σ H s → wpAny (model X.prog X.w) X.A (eval iter X.env) (fun v s1 => wpAny (model X.prog X.w) X.A (pyIter v) (PIE X pins σ tg R) X.xe s1) X.xe s
theorem pi_self {X : Cx} {tg iter : Expr} : PI X tg iter (tI X tg iter) := ⟨fun pins s _ _ _ I h => h pins s I⟩
theorem tI_of {X : Cx} {tg iter : Expr} {t : TI} {σ : St} {H : Hp} {R : It → Hp → Prop} (h : PI X tg iter t) (q : t σ H R) : tI X tg iter σ H R := fun pins s I => h.run pins s σ H R I q

/-- J gives the xs one by one, each told by r, while the heap W stands -/
def Wl {α : Type} (K : Fg) (J : It) (W F0 : Hp) (r : R α) (xs : List α) : Prop :=
  xs.length ≤ sizeLine ∧ ∃ (G : Hp → Prop) (Y : Nat → Hp → V → Hp → Prop), Walk J xs.length G Y ∧ (∀ H, Same W H → G H) ∧
    ∀ (i : Nat) (F H : Hp) (v : V) (H' : Hp), i < xs.length → Same W H → Same F0 F → Same F H → Y i H v H' → ∃ F2 x, Ext F H F2 H' ∧ xs[i]? = some x ∧ r.rep K F2 v x
section
variable (C : Cc) (B : Bs) (Γ : List Sl)
/-- st: what is walked is settled -/
def Ii {α : Type} (tg iter : Expr) (st : Bool) (r : R α) (m : Option (List α)) : Prop :=
  ∀ X, Is C X → ∀ (σ : St) (F H : Hp) (Q : It → Hp → Prop) (xs : List α), At C.K B Γ F H σ → m = some xs → (∀ J F' H', Ext F H F' H' → Wl C.K J (if st = true then F' else H') F' r xs → Q J H') → tI X tg iter σ H Q
end
section
variable {C : Cc} {B : Bs} {Γ : List Sl} {α β γ τ : Type} {e a b tg : Expr} {es : List Expr} {pos : Pos}
theorem wl_list {K : Fg} {p : Addr} {vs : List V} {W F0 : Hp} {r : R α} {xs : List α} (h : W p = some (.lst vs)) (hz : vs.length ≤ sizeLine) (ha : All2 (r.rep K F0) vs xs) : Wl K (Itl K p) W F0 r xs := by
  have hl := ha.len
  refine ⟨by rw [← hl]; exact hz, _, _, hl ▸ walk_list, fun H e => .inl (.inl (e _ _ h)), fun i F H v H' hi e1 e2 e3 y => ?_⟩
  obtain ⟨rfl, hv⟩ := y
  obtain ⟨x, h1, h2⟩ := ha.getV hv
  exact ⟨F, x, Ext.refl e3, h1, r.up e2 h2⟩
theorem wl_tup {K : Fg} {p : Addr} {vs : List V} {W F0 : Hp} {r : R α} {xs : List α} (h : SqT K W p vs) (hz : vs.length ≤ sizeLine) (ha : All2 (r.rep K F0) vs xs) : Wl K (Itt K p) W F0 r xs := by
  have hl := ha.len
  refine ⟨by rw [← hl]; exact hz, _, _, hl ▸ walk_tup, fun H e => sqT_up e h, fun i F H v H' hi e1 e2 e3 y => ?_⟩
  obtain ⟨rfl, hv⟩ := y
  obtain ⟨x, h1, h2⟩ := ha.getV hv
  exact ⟨F, x, Ext.refl e3, h1, r.up e2 h2⟩
theorem ii_list {r : R α} {m : Option (List α)} (h : Ex C B Γ e (vL r) m) : Ii C B Γ tg e false r m := by
  intro X hX σ F H Q xs at' hm k
  refine tI_of (pi_list pe_self) (h X hX σ F H _ xs at' hm fun v F' H' x ⟨p, vs, e1, e2, e3, e4⟩ => ?_)
  refine ⟨p, e1, ⟨vs, .inl (.inl e2)⟩, k _ F' H' x ?_⟩
  rw [hX.K]
  exact wl_list e2 e3 e4
theorem ii_listS {r : R α} {m : Option (List α)} (h : Ex C B Γ e (vS (rL r)) m) : Ii C B Γ tg e true r m := by
  intro X hX σ F H Q xs at' hm k
  refine tI_of (pi_list pe_self) (h X hX σ F H _ xs at' hm fun v F' H' x ⟨p, vs, e1, e2, e3, e4⟩ => ?_)
  refine ⟨p, e1, ⟨vs, .inl (.inl (x.fh _ _ e2))⟩, k _ F' H' x ?_⟩
  rw [hX.K]
  exact wl_list e2 e3 e4
theorem ii_tup {r : R α} {m : Option (List α)} (h : Ex C B Γ e (vS (rT r)) m) : Ii C B Γ tg e true r m := by
  intro X hX σ F H Q xs at' hm k
  refine tI_of (pi_tup pe_self) (h X hX σ F H _ xs at' hm fun v F' H' x ⟨p, vs, e1, e2, e3, e4⟩ => ?_)
  refine ⟨p, e1, ⟨vs, by rw [hX.K]; exact sqT_up x.fh e2⟩, k _ F' H' x ?_⟩
  rw [hX.K]
  exact wl_tup e2 e3 e4
/-- a pair as two alike -/
theorem ii_pair {r : R α} {m : Option (α × α)} (h : Ex C B Γ e (vS (rP r r)) m) : Ii C B Γ tg e true r (m.map fun x => [x.1, x.2]) := by
  intro X hX σ F H Q xs at' hm k
  cases m with
  | none => cases hm
  | some w =>
    cases hm
    refine tI_of (pi_tup pe_self) (h X hX σ F H _ w at' rfl fun v F' H' x ⟨p, va, vb, e1, e2, e3, e4⟩ => ?_)
    refine ⟨p, e1, ⟨_, by rw [hX.K]; exact sqT_up x.fh e2⟩, k _ F' H' x ?_⟩
    rw [hX.K]
    exact wl_tup (vs := [va, vb]) e2 (by show 2 ≤ sizeLine; decide) ⟨e3, e4, trivial⟩
theorem ii_script {m : Option (List Int)} (h : Ex C B Γ e (vS rZ) m) : Ii C B Γ tg e true rI m := by
  intro X hX σ F H Q xs at' hm k
  refine tI_of (pi_list pe_self) (h X hX σ F H _ xs at' hm fun v F' H' x ⟨p, e1, e2, e3⟩ => ?_)
  refine ⟨p, e1, ⟨_, by rw [hX.K]; exact Same.seq x.fh e2⟩, k _ F' H' x ?_⟩
  rw [hX.K]
  have hl : (xs.map V.int).length = xs.length := List.length_map ..
  refine ⟨Nat.le_of_lt (small1000 (by omega)), _, _, hl ▸ walk_list (a := p) (xs := xs.map V.int), fun H e => Same.seq e e2, fun i F H v H' hi f1 f2 f3 y => ?_⟩
  obtain ⟨rfl, hv⟩ := y
  obtain ⟨z, h1, h2⟩ := (All2.ofInts xs).getV hv
  exact ⟨F, z, Ext.refl f3, h1, h2⟩
theorem wl_range {K : Fg} {W F0 : Hp} {lo : Int} {n : Nat} {xs : List Int} (hx : xs = (List.range n).map fun i => lo + (i : Nat)) (hn : n ≤ sizeLine) : Wl K (Itr lo n) W F0 rI xs := by
  subst hx
  have hl : ((List.range n).map fun i => lo + ((i : Nat) : Int)).length = n := by rw [List.length_map, List.length_range]
  refine ⟨by rw [hl]; exact hn, fun _ => True, YFn fun i => .int (lo + i), by rw [hl]; exact walk_range, fun _ _ => trivial, fun i F H v H' hi f1 f2 f3 y => ?_⟩
  obtain ⟨rfl, rfl⟩ := y
  rw [hl] at hi
  exact ⟨F, lo + (i : Nat), Ext.refl f3, by simp [List.getElem?_map, List.getElem?_range hi], rfl⟩
theorem ii_rng1 {p : Pos} {m : Option Int} (hr : C.mg ("range" : Str) = none) (h : Ex C B Γ e (vS rI) m) (hg : C.sc.names.lookup ("range" : Str) = some .globalImplicit := by rfl)
    (hst : ∀ env : Env, starEach [e] env = [(false, eval e env)] := by intro _; rfl) : Ii C B Γ tg (.Call (.Name "range" p) [e] [] pos) true rI (m.bind fun n => rgG 0 n) := by
  intro X hX σ F H Q xs at' hm k
  obtain ⟨n, hn, hz⟩ := bd_some hm
  unfold rgG at hz
  split at hz
  · rename_i hb
    cases hz
    refine tI_of (pi_range1 (gl_of hX hg) (by rw [hX.mg]; exact hr) (pa_cons pe_self pa_nil (hst X.env)) (hst X.env)) (h X hX σ F H _ n at' hn fun v F' H' x q => ?_)
    subst q
    refine ⟨n, rfl, by omega, by omega, k _ F' H' x (wl_range ?_ (by rw [sizeLine_eq]; omega))⟩
    show rgL 0 n = _
    unfold rgL
    rw [Int.sub_zero]
  · cases hz
theorem ii_rng2 {p : Pos} {m n : Option Int} (hr : C.mg ("range" : Str) = none) (h : Ex C B Γ a (vS rI) m) (h2 : Ex C B Γ b (vS rI) n) (hg : C.sc.names.lookup ("range" : Str) = some .globalImplicit := by rfl)
    (hst : ∀ env : Env, starEach [a, b] env = [(false, eval a env), (false, eval b env)] := by intro _; rfl) (hst2 : ∀ env : Env, starEach [b] env = [(false, eval b env)] := by intro _; rfl) : Ii C B Γ tg (.Call (.Name "range" p) [a, b] [] pos) true rI (b2 m n rgG) := by
  intro X hX σ F H Q xs at' hm k
  obtain ⟨i, j, hi, hj, hz⟩ := b2_some hm
  unfold rgG at hz
  split at hz
  · rename_i hb
    cases hz
    refine tI_of (pi_range2 (gl_of hX hg) (by rw [hX.mg]; exact hr) (pa_cons pe_self (pa_cons pe_self pa_nil (hst2 X.env)) (by rw [hst X.env, hst2 X.env])) (hst X.env) (hst2 X.env)) (h X hX σ F H _ i at' hi fun v F1 H1 x1 q1 => ?_)
    refine h2 X hX σ F1 H1 _ j (at'.ext x1) hj fun w F' H' x2 q2 => ?_
    subst q1 q2
    exact ⟨i, j, rfl, ⟨by omega, by omega, by omega, by omega⟩, k _ F' H' (x1.trans x2) (wl_range rfl (by rw [sizeLine_eq]; omega))⟩
  · cases hz
/-- enumerate -/
def enL (xs : List α) : List (Int × α) := xs.zipIdx.map fun p => ((p.2 : Int), p.1)
theorem enL_get (xs : List α) (i : Nat) : (enL xs)[i]? = xs[i]?.map fun x => ((i : Int), x) := by
  unfold enL
  rw [List.getElem?_map, List.getElem?_zipIdx]
  cases xs[i]? <;> simp
theorem enL_len (xs : List α) : (enL xs).length = xs.length := by unfold enL; rw [List.length_map, List.length_zipIdx]
theorem wl_enum {K : Fg} {p : Addr} {vs : List V} {W F0 : Hp} {r : R α} {xs : List α} (h : W p = some (.lst vs)) (hz : vs.length ≤ sizeLine) (ha : All2 (r.rep K F0) vs xs) : Wl K (Ite K p) W F0 (rP rI r) (enL xs) := by
  have hl := ha.len
  have hl2 : (enL xs).length = vs.length := by rw [enL_len, hl]
  refine ⟨by rw [hl2]; exact hz, _, _, hl2 ▸ walk_enum (a := p) (xs := vs), fun H e => .inl (.inl (e _ _ h)), fun i F H v H' hi f1 f2 f3 y => ?_⟩
  obtain ⟨T, x, y, rfl, hT, rfl, hx, hy⟩ := y
  have hx' : x = V.int (i : Nat) := (Option.some.inj hx).symm
  subst hx'
  obtain ⟨z, h1, h2⟩ := ha.getV hy
  have x2 := Ext.new (o := .tup [V.int (i : Nat), y]) f3 hT
  refine ⟨_, ((i : Int), z), x2, by rw [enL_get, h1]; rfl, T, _, _, rfl, .inl (.inl upd_same), rfl, r.up x2.f (r.up f2 h2)⟩
theorem ii_enum {p : Pos} {elts : List Expr} {kk : Nat} {tpos : Pos} {r : R α} {m : Option (List α)} (hr : C.mg ("enumerate" : Str) = none) (h : Ex C B Γ e (vS (rL r)) m) (hg : C.sc.names.lookup ("enumerate" : Str) = some .globalImplicit := by rfl)
    (hst : ∀ env : Env, starEach [e] env = [(false, eval e env)] := by intro _; rfl) : Ii C B Γ (.Tuple elts kk tpos) (.Call (.Name "enumerate" p) [e] [] pos) true (rP rI r) (m.map enL) := by
  intro X hX σ F H Q xs at' hm k
  cases m with
  | none => cases hm
  | some w =>
    cases hm
    refine tI_of (pi_enum (gl_of hX hg) (by rw [hX.mg]; exact hr) (pa_cons pe_self pa_nil (hst X.env)) (hst X.env)) (h X hX σ F H _ w at' rfl fun v F' H' x ⟨q, vs, e1, e2, e3, e4⟩ => ?_)
    subst e1
    refine ⟨q, vs, rfl, .inl (.inl (x.fh _ _ e2)), k _ F' H' x ?_⟩
    rw [hX.K]
    exact wl_enum e2 e3 e4
theorem ii_enumO {p : Pos} {elts : List Expr} {kk : Nat} {tpos : Pos} {r : R α} {m : Option (List α)} (hr : C.mg ("enumerate" : Str) = none) (h : Ex C B Γ e (vL r) m) (hg : C.sc.names.lookup ("enumerate" : Str) = some .globalImplicit := by rfl)
    (hst : ∀ env : Env, starEach [e] env = [(false, eval e env)] := by intro _; rfl) : Ii C B Γ (.Tuple elts kk tpos) (.Call (.Name "enumerate" p) [e] [] pos) false (rP rI r) (m.map enL) := by
  intro X hX σ F H Q xs at' hm k
  cases m with
  | none => cases hm
  | some w =>
    cases hm
    refine tI_of (pi_enum (gl_of hX hg) (by rw [hX.mg]; exact hr) (pa_cons pe_self pa_nil (hst X.env)) (hst X.env)) (h X hX σ F H _ w at' rfl fun v F' H' x ⟨q, vs, e1, e2, e3, e4⟩ => ?_)
    subst e1
    refine ⟨q, vs, rfl, .inl (.inl e2), k _ F' H' x ?_⟩
    rw [hX.K]
    exact wl_enum e2 e3 e4

/-! ### targets -/
/-- the slots at ix alone are changed -/
def Off (ix : List Nat) (σ σ' : St) : Prop := σ'.length = σ.length ∧ ∀ k, k ∉ ix → σ'[k]? = σ[k]?
theorem Off.trans {ix iy : List Nat} {σ σ1 σ2 : St} (a : Off ix σ σ1) (b : Off iy σ1 σ2) : Off (ix ++ iy) σ σ2 :=
  ⟨b.1.trans a.1, fun k hk => (b.2 k fun z => hk (List.mem_append_right _ z)).trans (a.2 k fun z => hk (List.mem_append_left _ z))⟩
def Gt {α : Type} (C : Cc) (tg : Expr) (r : R α) (put : List Sl → α → List Sl) (ix : List Nat) : Prop :=
  ∀ X, Is C X → ∃ g : TG, PG X tg g ∧ ∀ (B : Bs) (Γ : List Sl) (F H : Hp) (σ : St) (v : V) (x : α) (Q : St → Hp → Prop), At C.K B Γ F H σ → r.rep C.K F v x → (∀ σ', At C.K B (put Γ x) F H σ' → Off ix σ σ' → Q σ' H) → g v σ H Q
theorem gt_name (i : Nat) {r : R α} {n : Str} (hN : C.N[i]? = some n := by rfl) (hl : C.sc.names.lookup n = some .local ∨ (C.sc.names.lookup n = some .cell ∧ C.fnx n = true) := by first | exact Or.inl rfl | exact Or.inr ⟨rfl, rfl⟩) :
    Gt C (.Name n pos) r (fun Γ x => Γ.set i (.sh r x)) [i] := by
  intro X hX
  refine ⟨gName i, ?_, fun B Γ F H σ v x Q a h k => ?_⟩
  · have hi : X.N[i]? = some n := by rw [hX.N]; exact hN
    have nd : X.N.Nodup := by rw [hX.N]; exact hX.nd
    rcases hl with q | ⟨q, f⟩
    · exact pg_name nd hi (.inl (by rw [hX.sc]; exact q)) (.inr (by rw [hX.sc]; exact q))
    · exact pg_name nd hi (.inr (by rw [hX.sc]; exact q)) (.inl (by rw [hX.fnx]; exact f))
  · refine k _ (a.put h) ⟨List.length_set .., fun j hj => ?_⟩
    rw [List.getElem?_set_ne (fun e => hj (by simp [e]))]
theorem gt_pair {t1 t2 : Expr} {k : _} {r : R α} {q : R β} {p1 : List Sl → α → List Sl} {p2 : List Sl → β → List Sl} {ix iy : List Nat} (h1 : Gt C t1 r p1 ix) (h2 : Gt C t2 q p2 iy)
    (s1 : ∀ env : Env, (assignEach [t1, t2] env).map (·.2) = assign t1 env :: (assignEach [t2] env).map (·.2) := by intro _; rfl) (s2 : ∀ env : Env, (assignEach [t2] env).map (·.2) = assign t2 env :: (assignEach [] env).map (·.2) := by intro _; rfl)
    (s3 : ∀ env : Env, (assignEach [t1, t2] env).length = 2 := by intro _; rfl) (s4 : ∀ env : Env, (assignEach [t1, t2] env).findIdx? (·.1) = none := by intro _; rfl) :
    Gt C (.Tuple [t1, t2] k pos) (rP r q) (fun Γ x => p2 (p1 Γ x.1) x.2) (ix ++ iy) := by
  intro X hX
  obtain ⟨g1, e1, k1⟩ := h1 X hX
  obtain ⟨g2, e2, k2⟩ := h2 X hX
  refine ⟨_, pg_tup hX.calm (pgs_cons e1 (pgs_cons e2 pgs_nil (s2 X.env)) (s1 X.env)) (s3 X.env) (s4 X.env), fun B Γ F H σ v x Q a h kk => ?_⟩
  obtain ⟨p, va, vb, q1, q2, q3, q4⟩ := h
  refine ⟨p, [va, vb], q1, by rw [hX.K]; exact sqT_up a.fh q2, rfl, va, [vb], rfl, k1 B Γ F H σ va x.1 _ a q3 fun σ1 a1 o1 => ?_⟩
  exact ⟨vb, [], rfl, k2 B _ F H σ1 vb x.2 _ a1 q4 fun σ2 a2 o2 => ⟨rfl, kk σ2 a2 (o1.trans o2)⟩⟩
theorem gt_tri {t1 t2 t3 : Expr} {k : _} {r : R α} {q : R β} {s : R γ} {p1 : List Sl → α → List Sl} {p2 : List Sl → β → List Sl} {p3 : List Sl → γ → List Sl} {ix iy iz : List Nat} (h1 : Gt C t1 r p1 ix) (h2 : Gt C t2 q p2 iy) (h3 : Gt C t3 s p3 iz)
    (s1 : ∀ env : Env, (assignEach [t1, t2, t3] env).map (·.2) = assign t1 env :: (assignEach [t2, t3] env).map (·.2) := by intro _; rfl) (s2 : ∀ env : Env, (assignEach [t2, t3] env).map (·.2) = assign t2 env :: (assignEach [t3] env).map (·.2) := by intro _; rfl)
    (s0 : ∀ env : Env, (assignEach [t3] env).map (·.2) = assign t3 env :: (assignEach [] env).map (·.2) := by intro _; rfl)
    (s3 : ∀ env : Env, (assignEach [t1, t2, t3] env).length = 3 := by intro _; rfl) (s4 : ∀ env : Env, (assignEach [t1, t2, t3] env).findIdx? (·.1) = none := by intro _; rfl) :
    Gt C (.Tuple [t1, t2, t3] k pos) (rP3 r q s) (fun Γ x => p3 (p2 (p1 Γ x.1) x.2.1) x.2.2) (ix ++ (iy ++ iz)) := by
  intro X hX
  obtain ⟨g1, e1, k1⟩ := h1 X hX
  obtain ⟨g2, e2, k2⟩ := h2 X hX
  obtain ⟨g3, e3, k3⟩ := h3 X hX
  refine ⟨_, pg_tup hX.calm (pgs_cons e1 (pgs_cons e2 (pgs_cons e3 pgs_nil (s0 X.env)) (s2 X.env)) (s1 X.env)) (s3 X.env) (s4 X.env), fun B Γ F H σ v x Q a h kk => ?_⟩
  obtain ⟨p, va, vb, vc, q1, q2, q3, q4, q5⟩ := h
  refine ⟨p, [va, vb, vc], q1, by rw [hX.K]; exact sqT_up a.fh q2, rfl, va, [vb, vc], rfl, k1 B Γ F H σ va x.1 _ a q3 fun σ1 a1 o1 => ?_⟩
  refine ⟨vb, [vc], rfl, k2 B _ F H σ1 vb x.2.1 _ a1 q4 fun σ2 a2 o2 => ?_⟩
  exact ⟨vc, [], rfl, k3 B _ F H σ2 vc x.2.2 _ a2 q5 fun σ3 a3 o3 => ⟨rfl, kk σ3 a3 (o1.trans (o2.trans o3))⟩⟩
theorem gt_quad {δ : Type} {t1 t2 t3 t4 : Expr} {k : _} {r : R α} {q : R β} {s : R γ} {t : R δ} {p1 : List Sl → α → List Sl} {p2 : List Sl → β → List Sl} {p3 : List Sl → γ → List Sl} {p4 : List Sl → δ → List Sl} {ix iy iz iw : List Nat} (h1 : Gt C t1 r p1 ix) (h2 : Gt C t2 q p2 iy) (h3 : Gt C t3 s p3 iz) (h4 : Gt C t4 t p4 iw)
    (s1 : ∀ env : Env, (assignEach [t1, t2, t3, t4] env).map (·.2) = assign t1 env :: (assignEach [t2, t3, t4] env).map (·.2) := by intro _; rfl) (s2 : ∀ env : Env, (assignEach [t2, t3, t4] env).map (·.2) = assign t2 env :: (assignEach [t3, t4] env).map (·.2) := by intro _; rfl)
    (s0 : ∀ env : Env, (assignEach [t3, t4] env).map (·.2) = assign t3 env :: (assignEach [t4] env).map (·.2) := by intro _; rfl) (s00 : ∀ env : Env, (assignEach [t4] env).map (·.2) = assign t4 env :: (assignEach [] env).map (·.2) := by intro _; rfl)
    (s3 : ∀ env : Env, (assignEach [t1, t2, t3, t4] env).length = 4 := by intro _; rfl) (s4 : ∀ env : Env, (assignEach [t1, t2, t3, t4] env).findIdx? (·.1) = none := by intro _; rfl) :
    Gt C (.Tuple [t1, t2, t3, t4] k pos) (rP4 r q s t) (fun Γ x => p4 (p3 (p2 (p1 Γ x.1) x.2.1) x.2.2.1) x.2.2.2) (ix ++ (iy ++ (iz ++ iw))) := by
  intro X hX
  obtain ⟨g1, e1, k1⟩ := h1 X hX
  obtain ⟨g2, e2, k2⟩ := h2 X hX
  obtain ⟨g3, e3, k3⟩ := h3 X hX
  obtain ⟨g4, e4, k4⟩ := h4 X hX
  refine ⟨_, pg_tup hX.calm (pgs_cons e1 (pgs_cons e2 (pgs_cons e3 (pgs_cons e4 pgs_nil (s00 X.env)) (s0 X.env)) (s2 X.env)) (s1 X.env)) (s3 X.env) (s4 X.env), fun B Γ F H σ v x Q a h kk => ?_⟩
  obtain ⟨p, va, vb, vc, vd, q1, q2, q3, q4, q5, q6⟩ := h
  refine ⟨p, [va, vb, vc, vd], q1, by rw [hX.K]; exact sqT_up a.fh q2, rfl, va, [vb, vc, vd], rfl, k1 B Γ F H σ va x.1 _ a q3 fun σ1 a1 o1 => ?_⟩
  refine ⟨vb, [vc, vd], rfl, k2 B _ F H σ1 vb x.2.1 _ a1 q4 fun σ2 a2 o2 => ?_⟩
  refine ⟨vc, [vd], rfl, k3 B _ F H σ2 vc x.2.2.1 _ a2 q5 fun σ3 a3 o3 => ?_⟩
  exact ⟨vd, [], rfl, k4 B _ F H σ3 vd x.2.2.2 _ a3 q6 fun σ4 a4 o4 => ⟨rfl, kk σ4 a4 (o1.trans (o2.trans (o3.trans o4)))⟩⟩

/-! ### comprehensions -/
/-- a block's own context -/
def Cc.blk (C : Cc) (scope : Scope) : Cc := { C with sc := relS scope C.sc, fnx := fun x => scope.names.lookup x == some .cell }
theorem Is.blk {X : Cx} (h : Is C X) (s : Shared) (H : Hp) (scope : Scope) (cl : List (Str × Addr)) (D : Addr) (fp : List Addr) : Is (C.blk scope) (X.blk s H scope (compEnvC scope cl D X.env) fp) :=
  ⟨h.P, h.w, h.K, h.mg, h.base, h.N, h.nd, by
    show relS scope X.env.scope = relS scope C.sc
    rw [h.sc], h.room, h.calm, rfl, rfl⟩
def wipeS (Γ : List Sl) : List Nat → List Sl
  | [] => Γ
  | v :: vs => (wipeS Γ vs).set v .no
theorem At.wipe {K : Fg} {F H : Hp} {σ : St} (a : At K B Γ F H σ) : ∀ vs : List Nat, At K B (wipeS Γ vs) F H (wipe σ vs)
  | [] => a
  | v :: vs => (At.wipe a vs).clear v none
theorem wipe_off {σ σ' : St} : ∀ {vs ix : List Nat}, (∀ k, k ∈ ix → k ∈ vs) → Off ix (wipe σ vs) σ' → wipe σ' vs = wipe σ vs := by
  intro vs ix hs ho
  have len : ∀ (τ : St) (ws : List Nat), (wipe τ ws).length = τ.length := wipe_length
  have inn : ∀ (τ : St) (ws : List Nat) (k : Nat), k ∈ ws → k < τ.length → (wipe τ ws)[k]? = some none := by
    intro τ ws
    induction ws with
    | nil => intro k h; simp at h
    | cons v ws ih =>
      intro k h hk
      unfold wipe
      by_cases e : v = k
      · subst e; rw [List.getElem?_set_self (by rw [len]; exact hk)]
      · rw [List.getElem?_set_ne e]
        rcases List.mem_cons.mp h with z | z
        · exact absurd z.symm e
        · exact ih k z hk
  have out : ∀ (τ : St) (ws : List Nat) (k : Nat), k ∉ ws → (wipe τ ws)[k]? = τ[k]? := by
    intro τ ws
    induction ws with
    | nil => intro k _; rfl
    | cons v ws ih =>
      intro k h
      unfold wipe
      rw [List.getElem?_set_ne (fun e => h (by simp [e]))]
      exact ih k fun z => h (List.mem_cons_of_mem _ z)
  have hl : σ'.length = σ.length := by rw [ho.1, len]
  apply List.ext_getElem?
  intro k
  by_cases hk : k ∈ vs
  · by_cases hlt : k < σ.length
    · rw [inn σ' vs k hk (by omega), inn σ vs k hk hlt]
    · rw [List.getElem?_eq_none (by rw [len]; omega), List.getElem?_eq_none (by rw [len]; omega)]
  · rw [out σ' vs k hk, ho.2 k fun z => hk (hs k z)]
/-- [f x for x in xs if c x] where steps may fail -/
def lcM (c : α → Option Bool) (f : α → Option β) : List α → Option (List β)
  | [] => some []
  | x :: xs => (c x).bind fun b => if b = true then (f x).bind fun y => (lcM c f xs).bind fun ys => some (y :: ys) else lcM c f xs
/-- the clauses' tests -/
def Ts (C : Cc) (B : Bs) (Γ : List Sl) (ifs : List Expr) (m : Option Bool) : Prop :=
  ∀ X, Is C X → ∃ t : TT, PTs X ifs t ∧ ∀ (σ : St) (F H : Hp) (Q : Bool → Hp → Prop) (x : Bool), At C.K B Γ F H σ → m = some x → (∀ F' H', Ext F H F' H' → Q x H') → t σ H Q
theorem ts_nil : Ts C B Γ [] (some true) := fun X hX => ⟨_, pts_nil, fun σ F H Q x a hm k => by cases hm; exact k F H (Ext.refl a.fh)⟩
theorem ts_one {c : Expr} {m : Option Bool} (h : Tt C B Γ c m) : Ts C B Γ [c] m := fun X hX => ⟨_, pts_one pt_self, fun σ F H Q x a hm k => h X hX σ F H Q x a hm k⟩
theorem lc_key {X : Cx} (hX : Is C X) {elt iter : Expr} {ifs : List Expr} {scope : Scope} {own : List (Str × Nat)} {r : R α} {q : R β} {put : List Sl → α → List Sl} {ix : List Nat} {st : Bool} {m : Option (List α)} {c : α → Option Bool} {f : α → Option β}
    (hi : Ii C B Γ tg iter st r m) (hg : Gt (C.blk scope) tg r put ix) (hx : ∀ k ∈ ix, k ∈ own.map (·.2)) (ht : ∀ x, Ts (C.blk scope) B (put (wipeS Γ (own.map (·.2))) x) ifs (c x)) (he : ∀ x, Ex (C.blk scope) B (put (wipeS Γ (own.map (·.2))) x) elt (vS q) (f x)) :
    ∃ g tt te, (∀ (s : Shared) (H : Hp) (D : Addr) (cl : List (Str × Addr)) (fp : List Addr), PG (X.blk s H scope (compEnvC scope cl D X.env) fp) tg g) ∧ (∀ (s : Shared) (H : Hp) (D : Addr) (cl : List (Str × Addr)) (fp : List Addr), PTs (X.blk s H scope (compEnvC scope cl D X.env) fp) ifs tt) ∧
      (∀ (s : Shared) (H : Hp) (D : Addr) (cl : List (Str × Addr)) (fp : List Addr), PE (X.blk s H scope (compEnvC scope cl D X.env) fp) elt te) ∧
      ∀ (σ : St) (F H : Hp) (Q : VK) (z : List β), At C.K B Γ F H σ → (m.bind fun xs => lcM c f xs) = some z →
        (∀ p ho F' H', Ext F H F' H' → H p = none → F' p = none → H' p = some ho → (oL q).rep C.K F' p ho z → Q (.ref p) H') → tLc (tI X tg iter) g tt te (own.map (·.2)) σ H Q := by
  -- the readings, chosen for all blocks at once
  let g : TG := fun v σ H Q => ∃ F Γ0 x, At C.K B Γ0 F H σ ∧ r.rep C.K F v x ∧ ∀ σ', At C.K B (put Γ0 x) F H σ' → Off ix σ σ' → Q σ' H
  let tt : TT := fun σ H Q => ∃ F x, (∃ b, c x = some b) ∧ At C.K B (put (wipeS Γ (own.map (·.2))) x) F H σ ∧ ∀ b, c x = some b → ∀ F' H', Ext F H F' H' → Q b H'
  let te : TE := fun σ H Q => ∃ F x y, f x = some y ∧ At C.K B (put (wipeS Γ (own.map (·.2))) x) F H σ ∧ ∀ v F' H', Ext F H F' H' → q.rep C.K F' v y → Q v H'
  refine ⟨g, tt, te, fun s H D cl fp => ?_, fun s H D cl fp => ?_, fun s H D cl fp => ?_, fun σ F H Q z at' hm k => ?_⟩
  · obtain ⟨g', e1, k1⟩ := hg _ (hX.blk s H scope cl D fp)
    exact ⟨fun pins s' σ' H' v u Q I rv ⟨F, Γ0, x, a, hr, kk⟩ => e1.run pins s' σ' H' v u Q I rv (k1 B Γ0 F H' σ' v x Q a hr kk)⟩
  · refine ⟨fun pins s' σ' H' Q I ⟨F, x, ⟨b, hb⟩, a, kk⟩ => ?_⟩
    obtain ⟨t, e1, k1⟩ := ht x _ (hX.blk s H scope cl D fp)
    exact e1.run pins s' σ' H' Q I (k1 σ' F H' Q b a hb fun F' H'' xx => kk b hb F' H'' xx)
  · exact ⟨fun pins s' σ' H' Q I ⟨F, x, y, hy, a, kk⟩ => he x _ (hX.blk s H scope cl D fp) σ' F H' Q y a hy kk pins s' I⟩
  · obtain ⟨xs, hxs, hz⟩ := bd_some hm
    refine hi X hX σ F H _ xs at' hxs fun J F1 H1 x1 w => ?_
    obtain ⟨hsz, G, Y, wk, hG, hY⟩ := w
    intro D hD
    have hFD : F1 D = none := x1.fh.free hD
    have keep : ∀ {F2 H2 : Hp}, Ext F1 (upd H1 D (.lst [])) F2 H2 → True := fun _ => trivial
    -- the heap that the walk stands on is kept
    have base : ∀ {F2 H2 : Hp}, Same F1 F2 → Same F2 H2 → Same H1 H2 → Same (if st = true then F1 else H1) H2 := fun {F2 H2} f1 f2 f3 => by
      cases st with
      | true => exact f1.trans f2
      | false => exact f3
    let Pv : Nat → Hp → Prop := fun i H2 => ∃ F2 acc ys zs, Same H1 H2 ∧ Same F1 F2 ∧ Same F2 H2 ∧ (∀ p o, H1 p = some o → F2 p = F1 p) ∧ F2 D = none ∧ H2 D = some (.lst acc) ∧ All2 (q.rep C.K F2) acc ys ∧ acc.length ≤ i ∧ lcM c f (xs.drop i) = some zs ∧ z = ys ++ zs
    refine lc_it wk Pv ⟨F1, [], [], z, Same.upd hD, Same.refl F1, fun p o e => Same.upd hD p o (x1.fh p o e), fun _ _ _ => rfl, hFD, upd_same, trivial, Nat.le_refl _, hz, rfl⟩ (fun i H2 _ ⟨F2, _, _, _, s1, s2, s3, _⟩ => hG H2 (base s2 s3 s1)) ?_ ?_
    · rintro i v H2 H3 hlt ⟨F2, acc, ys, zs, s1, s2, s3, s4, hF2, hD2, ha, hlen, hl, hzz⟩ y
      obtain ⟨F3, x, x3, hx3, hr⟩ := hY i F2 H2 v H3 hlt (base s2 s3 s1) s2 s3 y
      have hd : xs.drop i = x :: xs.drop (i + 1) := by
        rw [List.drop_eq_getElem_cons hlt]
        have := List.getElem?_eq_getElem hlt
        rw [this] at hx3
        rw [Option.some.inj hx3]
      rw [hd] at hl
      unfold lcM at hl
      obtain ⟨b, hb, hl⟩ := bd_some hl
      -- the state as the block sees it
      have at1 : At C.K B Γ F1 H1 σ := at'.ext x1
      have at3 : At C.K B Γ F3 H3 σ := by
        have e13 : Ext F1 H1 F3 H3 := ⟨s1.trans x3.h, s2.trans x3.f, x3.fh, fun p o e => (x3.fr p o (s1 p o e)).trans (s4 p o e)⟩
        exact at1.ext e13
      have aw := at3.wipe (own.map (·.2))
      refine ⟨F3, _, x, aw, hr, fun σ2 a2 off => ⟨wipe_off hx off, F3, x, ⟨b, hb⟩, a2, fun b' hb' F4 H4 x4 => ?_⟩⟩
      rw [hb] at hb'
      cases hb'
      have x34 := x3.trans x4
      have hD4 : H4 D = some (.lst acc) := x34.h _ _ hD2
      have hF4 : F4 D = none := by rw [x34.fr D _ hD2]; exact hF2
      have s1' := s1.trans x34.h
      have s2' := s2.trans x34.f
      have s4' : ∀ p o, H1 p = some o → F4 p = F1 p := fun p o e => (x34.fr p o (s1 p o e)).trans (s4 p o e)
      cases b with
      | false =>
        refine iteF ⟨F4, acc, ys, zs, s1', s2', x34.fh, s4', hF4, hD4, All2.imp (fun _ _ z => q.up x34.f z) ha, by omega, ?_, hzz⟩
        simpa using hl
      | true =>
        rw [if_pos rfl] at hl
        obtain ⟨y, hy, hl⟩ := bd_some hl
        obtain ⟨ws, hws, hl⟩ := bd_some hl
        cases hl
        refine iteT ⟨F4, x, y, hy, a2.ext x4, fun v' F5 H5 x5 hq => ?_⟩
        have x35 := x34.trans x5
        have hD5 : H5 D = some (.lst acc) := x35.h _ _ hD2
        have hF5 : F5 D = none := by rw [x35.fr D _ hD2]; exact hF2
        refine ⟨acc, hD5, by omega, F5, acc ++ [v'], ys ++ [y], ws, ?_, s2'.trans x5.f, ?_, fun p o e => (x35.fr p o (s1 p o e)).trans (s4 p o e), hF5, upd_same, All2.app (All2.imp (fun _ _ z => q.up x35.f z) ha) (All2.one hq), by rw [List.length_append]; simp; omega, hws, by rw [hzz, List.append_assoc]; rfl⟩
        · intro p o e
          rw [upd_ne (ne_of_none e hD)]
          exact x35.h _ _ (s1 _ _ e)
        · intro p o e
          rw [upd_ne (ne_of_none e hF5)]
          exact x35.fh _ _ e
    · rintro H2 ⟨F2, acc, ys, zs, s1, s2, s3, s4, hF2, hD2, ha, hlen, hl, hzz⟩
      rw [List.drop_length] at hl
      have ez : zs = [] := (Option.some.inj hl).symm
      subst ez
      rw [List.append_nil] at hzz
      subst hzz
      refine k D _ F2 H2 (x1.trans ⟨s1, s2, s3, s4⟩) (x1.h.free hD) hF2 hD2 ⟨acc, rfl, ?_, ha⟩
      exact Nat.le_trans hlen hsz
theorem ex_lc {elt iter : Expr} {ifs : List Expr} {scope : Scope} {r : R α} {q : R β} {put : List Sl → α → List Sl} {ix : List Nat} {st : Bool} {m : Option (List α)} {c : α → Option Bool} {f : α → Option β}
    (own : List (Str × Nat)) (ok : blkC C.N C.sc scope own = true) (hi : Ii C B Γ tg iter st r m) (hg : Gt (C.blk scope) tg r put ix) (ht : ∀ x, Ts (C.blk scope) B (put (wipeS Γ (own.map (·.2))) x) ifs (c x)) (he : ∀ x, Ex (C.blk scope) B (put (wipeS Γ (own.map (·.2))) x) elt (vS q) (f x))
    (hx : ∀ k ∈ ix, k ∈ own.map (·.2) := by decide) (hs : ∀ (env : Env) x, foldedSetIterable iter env x = pure x := by intro _ _; rfl) : ExF C B Γ (.ListComp elt [⟨tg, iter, ifs, 0⟩] scope pos) (oL q) (m.bind fun xs => lcM c f xs) := by
  intro X hX σ F H Q z at' hm k
  obtain ⟨g, tt, te, e1, e2, e3, e4⟩ := lc_key hX (own := own) hi hg hx ht he
  exact tE_of (pe_lc hX.calm (by rw [hX.N]; exact hX.nd) pi_self (by rw [hX.N, hX.sc]; exact blkOk_by ok) e1 e2 e3 (hs X.env)) (e4 σ F H Q z at' hm k)
/-- total forms -/
theorem lcM_map (f : α → β) : ∀ xs : List α, lcM (fun _ => some true) (fun x => some (f x)) xs = some (xs.map f)
  | [] => rfl
  | x :: xs => by
    unfold lcM
    rw [lcM_map f xs]
    rfl
theorem lcM_filter (c : α → Bool) (f : α → β) : ∀ xs : List α, lcM (fun x => some (c x)) (fun x => some (f x)) xs = some ((xs.filter c).map f)
  | [] => rfl
  | x :: xs => by
    unfold lcM
    rw [lcM_filter c f xs, List.filter_cons]
    cases h : c x <;> simp
theorem exF_of {r : Ob α} {m n : Option α} (h : ExF C B Γ e r m) (q : m = n) : ExF C B Γ e r n := q ▸ h
theorem ex_of {M : Vp α} {m n : Option α} (h : Ex C B Γ e M m) (q : m = n) : Ex C B Γ e M n := q ▸ h
end
end L2.T
set_option Elab.async false
set_option linter.all false
set_option maxRecDepth 100000
/-! Statements. -/
namespace L2.T
open PySem PySem.Spec PyProof.Rows

/-- what is wanted behind an outcome; F: what is settled ahead -/
structure Po (O : Type) where
  p : O → Hp → Ends → Prop
  mono : ∀ {o : O} {F F1 : Hp} {D : Ends}, Same F F1 → p o F D → p o F1 D
section
variable (C : Cc) (B : Bs) (Γ : List Sl)
def Sx {O : Type} (sts : List Stmt) (m : Option O) (P : Po O) : Prop :=
  ∀ X, Is C X → ∀ (σ : St) (F H : Hp) (D : Ends) (o : O), At C.K B Γ F H σ → m = some o → P.p o F D → tS X sts D σ H
end
/-- the def's end -/
def pR {ρ : Type} (C : Cc) (B : Bs) (res : Rs ρ) : Po ρ := ⟨fun r _ D => ∀ v F' H', Ext B.F B.H F' H' → res C.K B.F B.H F' H' v r → D.rt v H', fun _ h => h⟩
/-- falling through -/
def pN {S : Type} (C : Cc) (B : Bs) (Γ : S → List Sl) : Po S := ⟨fun s F D => ∀ σ F' H', Same F F' → At C.K B (Γ s) F' H' σ → D.nx σ H', fun e h σ F' H' e2 => h σ F' H' (e.trans e2)⟩
inductive Lv (L ρ : Type) where
  | bk (l : L)
  | ct (l : L)
  | rt (r : ρ)
inductive Out (S L ρ : Type) where
  | nx (s : S)
  | lv (l : Lv L ρ)
def pL {L ρ : Type} (C : Cc) (B : Bs) (Γl : L → List Sl) (res : Rs ρ) : Po (Lv L ρ) := ⟨fun o F D => match o with
  | .bk s => ∀ σ F' H', Same F F' → At C.K B (Γl s) F' H' σ → D.bk σ H'
  | .ct s => ∀ σ F' H', Same F F' → At C.K B (Γl s) F' H' σ → D.ct σ H'
  | .rt r => ∀ v F' H', Ext B.F B.H F' H' → res C.K B.F B.H F' H' v r → D.rt v H', fun {o F F1 D} e h => by
    cases o with
    | bk s => exact fun σ F' H' e2 => h σ F' H' (e.trans e2)
    | ct s => exact fun σ F' H' e2 => h σ F' H' (e.trans e2)
    | rt r => exact h⟩
def pO {S L ρ : Type} (C : Cc) (B : Bs) (Γ : S → List Sl) (Γl : L → List Sl) (res : Rs ρ) : Po (Out S L ρ) := ⟨fun o F D => match o with
  | .nx s => (pN C B Γ).p s F D
  | .lv l => (pL C B Γl res).p l F D, fun {o F F1 D} e h => by
    cases o with
    | nx s => exact (pN C B Γ).mono e h
    | lv l => exact (pL C B Γl res).mono e h⟩
/-- an end that does not speak of what follows -/
def Fin {O : Type} (P : Po O) : Prop := ∀ (o : O) (F : Hp) (D : Ends) (n : St → Hp → Prop), P.p o F D → P.p o F { D with nx := n }

section
variable {C : Cc} {B : Bs} {Γ : List Sl} {O : Type} {P : Po O} {α β γ ρ S L : Type} {e a b tg : Expr} {es : List Expr} {pos : Pos} {st : Stmt} {rest sts : List Stmt} {res : Rs ρ} {Γo : S → List Sl} {Γl : L → List Sl}
theorem fin_R : Fin (pR C B res) := fun _ _ _ _ h => h
theorem fin_L : Fin (pL C B Γl res) := fun o _ _ _ h => by cases o <;> exact h
theorem At.toExt {K : Fg} {F H : Hp} {σ : St} (a : At K B Γ F H σ) : Ext B.F B.H F H := ⟨a.h0, a.f0, a.fh, a.fr⟩

/-! ### blocks -/
theorem sx_none : Sx C B Γ sts none P := fun _ _ _ _ _ _ _ _ h => nomatch h
theorem sx_nil {s : S} (w : Wk Γ (Γo s)) : Sx C B Γ [] (some s) (pN C B Γo) := by
  intro X hX σ F H D o a hm hp
  cases hm
  exact tS_of pss_nil (hp σ F H (Same.refl F) (a.wk w))
theorem sx_nilO {s : S} (w : Wk Γ (Γo s)) : Sx C B Γ [] (some (.nx s)) (pO C B Γo Γl res) := by
  intro X hX σ F H D o a hm hp
  cases hm
  exact tS_of pss_nil (hp σ F H (Same.refl F) (a.wk w))
theorem sx_brk {l : L} (w : Wk Γ (Γl l)) : Sx C B Γ (.Break pos :: rest) (some (.bk l)) (pL C B Γl res) := by
  intro X hX σ F H D o a hm hp
  cases hm
  exact tS_of (pss_cons ps_break pss_self) (hp σ F H (Same.refl F) (a.wk w))
theorem sx_cnt {l : L} (w : Wk Γ (Γl l)) : Sx C B Γ (.Continue pos :: rest) (some (.ct l)) (pL C B Γl res) := by
  intro X hX σ F H D o a hm hp
  cases hm
  exact tS_of (pss_cons ps_continue pss_self) (hp σ F H (Same.refl F) (a.wk w))
/-- a leaving block as any -/
theorem sx_lv {m : Option (Lv L ρ)} (h : Sx C B Γ sts m (pL C B Γl res)) : Sx C B Γ sts (m.map Out.lv) (pO C B Γo Γl res) := by
  intro X hX σ F H D o a hm hp
  cases m with
  | none => cases hm
  | some l =>
    cases hm
    exact h X hX σ F H D l a rfl hp
theorem sx_rt {m : Option ρ} (h : Sx C B Γ sts m (pR C B res)) : Sx C B Γ sts (m.map Lv.rt) (pL C B Γl res) := by
  intro X hX σ F H D o a hm hp
  cases m with
  | none => cases hm
  | some l =>
    cases hm
    exact h X hX σ F H D l a rfl hp
theorem sx_pass (h : Sx C B Γ rest m P) : Sx C B Γ (.Pass pos :: rest) m P := by
  intro X hX σ F H D o a hm hp
  exact tS_of (pss_cons ps_pass pss_self) (h X hX σ F H D o a hm hp)
/-! ### return -/
theorem sx_ret {r : R ρ} {m : Option ρ} (h : Ex C B Γ e (vS r) m) : Sx C B Γ (.Return (some e) pos :: rest) m (pR C B (resS r)) := by
  intro X hX σ F H D o a hm hp
  exact tS_of (pss_cons (ps_ret pe_self) pss_self) (h X hX σ F H _ o a hm fun v F' H' x q => hp v F' H' (a.toExt.trans x) q)
theorem sx_retF {r : Ob ρ} {m : Option ρ} (h : ExF C B Γ e r m) : Sx C B Γ (.Return (some e) pos :: rest) m (pR C B (resF r)) := by
  intro X hX σ F H D o a hm hp
  exact tS_of (pss_cons (ps_ret pe_self) pss_self) (h X hX σ F H _ o a hm fun p ho F' H' x n f q1 q => hp _ F' H' (a.toExt.trans x) ⟨p, ho, rfl, a.h0.free n, f, q1, q⟩)
/-- return of a name that holds a thing of one's own -/
theorem sx_retO (i : Nat) {r : Ob ρ} {x : ρ} {n : Str} {p2 : Pos} (hi : Γ[i]? = some (.ow r x) := by rfl) (hN : C.N[i]? = some n := by rfl) (hv : Vis C.sc n := by first | exact Or.inl rfl | exact Or.inr (Or.inl rfl) | exact Or.inr (Or.inr rfl))
    (hd : (n == ("__debug__" : Str)) = false := by decide) (hcd : (n == ("__classdict__" : Str)) = false := by decide) : Sx C B Γ (.Return (some (.Name n p2)) pos :: rest) (some x) (pR C B (resF r)) := by
  intro X hX σ F H D o a hm hp
  cases hm
  obtain ⟨p, ho, h1, h2, h3, h4, h5⟩ := a.sl i _ hi
  refine tS_of (pss_cons (ps_ret (pe_var (by rw [hX.N]; exact hN) (vis_of hX hv) hd hcd)) pss_self) ⟨.ref p, h1, ?_⟩
  exact hp _ F H a.toExt ⟨p, ho, rfl, h2, h3, h4, h5⟩
theorem sx_retN : Sx C B Γ (.Return none pos :: rest) (some ()) (pR C B (resS rN)) := by
  intro X hX σ F H D o a hm hp
  exact tS_of (pss_cons ps_retN pss_self) (hp _ F H a.toExt rfl)
/-- .. told as None -/
theorem sx_retNO {r : R α} : Sx C B Γ (.Return none pos :: rest) (some none) (pR C B (resS (rO r))) := by
  intro X hX σ F H D o a hm hp
  cases hm
  exact tS_of (pss_cons ps_retN pss_self) (hp _ F H a.toExt rfl)

/-! ### stores -/
def LocN (C : Cc) (n : Str) : Prop := C.sc.names.lookup n = some .local ∨ (C.sc.names.lookup n = some .cell ∧ C.fnx n = true)
def NoSw (e : Expr) : Prop := ∀ (t : Option Expr) (l : Nat) (env : Env), swapsWith e t l env = pure false
theorem ps_setC {X : Cx} (hX : Is C X) {i : Nat} {n : Str} {te : TE} {p2 : Pos} (hN : C.N[i]? = some n) (hl : LocN C n) (he : PE X e te) (hs : NoSw e) : PS X (.Assign [.Name n p2] e pos) (tAsg te (gName i)) := by
  have hi : X.N[i]? = some n := by rw [hX.N]; exact hN
  have nd : X.N.Nodup := by rw [hX.N]; exact hX.nd
  rcases hl with q | ⟨q, f⟩
  · exact ps_set nd hi (.inl (by rw [hX.sc]; exact q)) he (hs _ _ _) (.inr (by rw [hX.sc]; exact q))
  · exact ps_set nd hi (.inr (by rw [hX.sc]; exact q)) he (hs _ _ _) (.inl (by rw [hX.fnx]; exact f))
/-- x = e -/
theorem sx_let (i : Nat) {n : Str} {p2 : Pos} {r : R α} {x : α} {m : Option O} (h : Ex C B Γ e (vS r) (some x)) (k : Sx C B (Γ.set i (.sh r x)) rest m P)
    (hN : C.N[i]? = some n := by rfl) (hl : LocN C n := by first | exact Or.inl rfl | exact Or.inr ⟨rfl, rfl⟩) (hs : NoSw e := by intro _ _ _; rfl) : Sx C B Γ (.Assign [.Name n p2] e pos :: rest) m P := by
  intro X hX σ F H D o a hm hp
  refine tS_of (pss_cons (ps_setC hX hN hl pe_self hs) pss_self) (h X hX σ F H _ x a rfl fun v F' H' x1 q => ?_)
  exact k X hX _ F' H' D o ((a.ext x1).put q) hm (P.mono x1.f hp)
theorem sx_bind (i : Nat) {n : Str} {p2 : Pos} {r : R α} {mx : Option α} {m : α → Option O} (h : Ex C B Γ e (vS r) mx) (k : ∀ x, Sx C B (Γ.set i (.sh r x)) rest (m x) P)
    (hN : C.N[i]? = some n := by rfl) (hl : LocN C n := by first | exact Or.inl rfl | exact Or.inr ⟨rfl, rfl⟩) (hs : NoSw e := by intro _ _ _; rfl) : Sx C B Γ (.Assign [.Name n p2] e pos :: rest) (mx.bind m) P := by
  intro X hX σ F H D o a hm hp
  obtain ⟨x, hx, hz⟩ := bd_some hm
  refine tS_of (pss_cons (ps_setC hX hN hl pe_self hs) pss_self) (h X hX σ F H _ x a hx fun v F' H' x1 q => ?_)
  exact k x X hX _ F' H' D o ((a.ext x1).put q) hz (P.mono x1.f hp)
/-- x = e, e a new thing that will be changed -/
theorem sx_letF (i : Nat) {n : Str} {p2 : Pos} {r : Ob α} {x : α} {m : Option O} (h : ExF C B Γ e r (some x)) (k : Sx C B (Γ.set i (.ow r x)) rest m P)
    (hN : C.N[i]? = some n := by rfl) (hl : LocN C n := by first | exact Or.inl rfl | exact Or.inr ⟨rfl, rfl⟩) (hs : NoSw e := by intro _ _ _; rfl) : Sx C B Γ (.Assign [.Name n p2] e pos :: rest) m P := by
  intro X hX σ F H D o a hm hp
  refine tS_of (pss_cons (ps_setC hX hN hl pe_self hs) pss_self) (h X hX σ F H _ x a rfl fun p ho F' H' x1 n f q1 q => ?_)
  exact k X hX _ F' H' D o (a.putO x1 n f q1 q) hm (P.mono x1.f hp)
theorem sx_bindF (i : Nat) {n : Str} {p2 : Pos} {r : Ob α} {mx : Option α} {m : α → Option O} (h : ExF C B Γ e r mx) (k : ∀ x, Sx C B (Γ.set i (.ow r x)) rest (m x) P)
    (hN : C.N[i]? = some n := by rfl) (hl : LocN C n := by first | exact Or.inl rfl | exact Or.inr ⟨rfl, rfl⟩) (hs : NoSw e := by intro _ _ _; rfl) : Sx C B Γ (.Assign [.Name n p2] e pos :: rest) (mx.bind m) P := by
  intro X hX σ F H D o a hm hp
  obtain ⟨x, hx, hz⟩ := bd_some hm
  refine tS_of (pss_cons (ps_setC hX hN hl pe_self hs) pss_self) (h X hX σ F H _ x a hx fun p ho F' H' x1 n f q1 q => ?_)
  exact k x X hX _ F' H' D o (a.putO x1 n f q1 q) hz (P.mono x1.f hp)
/-- a comprehension stored: the block's own statement form -/
theorem ps_lcC {X : Cx} (hX : Is C X) {i : Nat} {n : Str} {p2 : Pos} {elt iter : Expr} {ifs : List Expr} {scope : Scope} {own : List (Str × Nat)} {g : TG} {tt : TT} {te : TE} {pos2 : Pos} (hN : C.N[i]? = some n) (hl : C.sc.names.lookup n = some .local) (hk : C.sc.kind = .function) (ok : blkC C.N C.sc scope own = true)
    (hln : (p2.line == pos2.line) = true) (ha : (scope.names.any fun (m, k) => m == n && (k == .local || k == .cell)) = false)
    (e1 : ∀ (s : Shared) (H : Hp) (D : Addr) (cl : List (Str × Addr)) (fp : List Addr), PG (X.blk s H scope (compEnvC scope cl D X.env) fp) tg g) (e2 : ∀ (s : Shared) (H : Hp) (D : Addr) (cl : List (Str × Addr)) (fp : List Addr), PTs (X.blk s H scope (compEnvC scope cl D X.env) fp) ifs tt)
    (e3 : ∀ (s : Shared) (H : Hp) (D : Addr) (cl : List (Str × Addr)) (fp : List Addr), PE (X.blk s H scope (compEnvC scope cl D X.env) fp) elt te) (hs : ∀ (env : Env) x, foldedSetIterable iter env x = pure x) :
    PS X (.Assign [.Name n p2] (.ListComp elt [⟨tg, iter, ifs, 0⟩] scope pos2) pos) (tAsg (tLc (tI X tg iter) g tt te (own.map (·.2))) (gName i)) :=
  ps_setLc hX.calm (by rw [hX.N]; exact hX.nd) (by rw [hX.N]; exact hN) (by rw [hX.sc]; exact hl) (sw_true (by rw [hX.sc]; exact hk) (by rw [hX.sc]; exact hl) hln ha) pi_self (by rw [hX.N, hX.sc]; exact blkOk_by ok) e1 e2 e3 (hs X.env)
/-- x = [..], x settled at once -/
theorem sx_lc (i : Nat) {n : Str} {p2 pos2 : Pos} {elt iter : Expr} {ifs : List Expr} {scope : Scope} {r : R α} {q : R β} {put : List Sl → α → List Sl} {ix : List Nat} {sd : Bool} {mx : Option (List α)} {c : α → Option Bool} {f : α → Option β} {m : List β → Option O}
    (own : List (Str × Nat)) (ok : blkC C.N C.sc scope own = true) (hi : Ii C B Γ tg iter sd r mx) (hg : Gt (C.blk scope) tg r put ix) (ht : ∀ x, Ts (C.blk scope) B (put (wipeS Γ (own.map (·.2))) x) ifs (c x)) (he : ∀ x, Ex (C.blk scope) B (put (wipeS Γ (own.map (·.2))) x) elt (vS q) (f x))
    (k : ∀ x, Sx C B (Γ.set i (.sh (rL q) x)) rest (m x) P)
    (hN : C.N[i]? = some n := by rfl) (hl : C.sc.names.lookup n = some .local := by rfl) (hk : C.sc.kind = .function := by rfl) (hln : (p2.line == pos2.line) = true := by rfl) (ha : (scope.names.any fun (m, k) => m == n && (k == .local || k == .cell)) = false := by decide)
    (hx : ∀ k ∈ ix, k ∈ own.map (·.2) := by decide) (hs : ∀ (env : Env) x, foldedSetIterable iter env x = pure x := by intro _ _; rfl) :
    Sx C B Γ (.Assign [.Name n p2] (.ListComp elt [⟨tg, iter, ifs, 0⟩] scope pos2) pos :: rest) ((mx.bind fun xs => lcM c f xs).bind m) P := by
  intro X hX σ F H D o a hm hp
  obtain ⟨x, hx', hz⟩ := bd_some hm
  obtain ⟨g, tt, te, e1, e2, e3, e4⟩ := lc_key hX (own := own) hi hg hx ht he
  refine tS_of (pss_cons (ps_lcC hX hN hl hk ok hln ha e1 e2 e3 hs) pss_self) (e4 σ F H (fun v H' => tS X rest D (σ.set i (some v)) H') x a hx' fun p ho F' H' x1 n f q1 q2 => ?_)
  obtain ⟨vs, rfl, h1, h2⟩ := q2
  have x2 := x1.settle n q1 f
  exact k x X hX _ _ H' D o ((a.ext x2).put (r := rL q) ⟨p, vs, rfl, upd_same, h1, All2.imp (fun _ _ z => q.up (Same.upd f) z) h2⟩) hz (P.mono x2.f hp)
/-- x = [..], x to be changed -/
theorem sx_lcF (i : Nat) {n : Str} {p2 pos2 : Pos} {elt iter : Expr} {ifs : List Expr} {scope : Scope} {r : R α} {q : R β} {put : List Sl → α → List Sl} {ix : List Nat} {sd : Bool} {mx : Option (List α)} {c : α → Option Bool} {f : α → Option β} {m : List β → Option O}
    (own : List (Str × Nat)) (ok : blkC C.N C.sc scope own = true) (hi : Ii C B Γ tg iter sd r mx) (hg : Gt (C.blk scope) tg r put ix) (ht : ∀ x, Ts (C.blk scope) B (put (wipeS Γ (own.map (·.2))) x) ifs (c x)) (he : ∀ x, Ex (C.blk scope) B (put (wipeS Γ (own.map (·.2))) x) elt (vS q) (f x))
    (k : ∀ x, Sx C B (Γ.set i (.ow (oL q) x)) rest (m x) P)
    (hN : C.N[i]? = some n := by rfl) (hl : C.sc.names.lookup n = some .local := by rfl) (hk : C.sc.kind = .function := by rfl) (hln : (p2.line == pos2.line) = true := by rfl) (ha : (scope.names.any fun (m, k) => m == n && (k == .local || k == .cell)) = false := by decide)
    (hx : ∀ k ∈ ix, k ∈ own.map (·.2) := by decide) (hs : ∀ (env : Env) x, foldedSetIterable iter env x = pure x := by intro _ _; rfl) :
    Sx C B Γ (.Assign [.Name n p2] (.ListComp elt [⟨tg, iter, ifs, 0⟩] scope pos2) pos :: rest) ((mx.bind fun xs => lcM c f xs).bind m) P := by
  intro X hX σ F H D o a hm hp
  obtain ⟨x, hx', hz⟩ := bd_some hm
  obtain ⟨g, tt, te, e1, e2, e3, e4⟩ := lc_key hX (own := own) hi hg hx ht he
  refine tS_of (pss_cons (ps_lcC hX hN hl hk ok hln ha e1 e2 e3 hs) pss_self) (e4 σ F H (fun v H' => tS X rest D (σ.set i (some v)) H') x a hx' fun p ho F' H' x1 n f q1 q2 => ?_)
  exact k x X hX _ F' H' D o (a.putO x1 n f q1 q2) hz (P.mono x1.f hp)
/-- a, b = e and their kin -/
theorem sx_unp {r : R α} {put : List Sl → α → List Sl} {ix : List Nat} {mx : Option α} {m : α → Option O} (hg : Gt C tg r put ix) (h : Ex C B Γ e (vS r) mx) (k : ∀ x, Sx C B (put Γ x) rest (m x) P)
    (hs : ∀ (l : Nat) (env : Env), swapsWithSole [tg] e l env = pure false := by intro _ _; rfl) (hw : ∀ (env : Env), swappedStores [tg] e env = pure none := by intro _; rfl) (h1 : ∀ env : Env, (assignEach [tg] env).map (·.2) = [assign tg env] := by intro _; rfl) :
    Sx C B Γ (.Assign [tg] e pos :: rest) (mx.bind m) P := by
  intro X hX σ F H D o a hm hp
  obtain ⟨x, hx, hz⟩ := bd_some hm
  obtain ⟨g, e1, k1⟩ := hg X hX
  refine tS_of (pss_cons (ps_asg pe_self e1 (hs _ _) (hw _) (h1 _)) pss_self) (h X hX σ F H _ x a hx fun v F' H' x1 q => ?_)
  exact k1 B Γ F' H' σ v x _ (a.ext x1) q fun σ' a' _ => k x X hX σ' F' H' D o a' hz (P.mono x1.f hp)
/-- a, b = x, y with two names -/
theorem swp_ok {n n' : Str} {p1 p2 p3 p4 : Pos} {k1 k2 : _} {env : Env} (hk : env.scope.kind = .function) (h1 : env.scope.names.lookup n = some .local) (h2 : env.scope.names.lookup n' = some .local) (hln : (p1.line == p1.line && p2.line == p1.line) = true) (hne : ([n, n'].eraseDups.length != 2) = false)
    (hsa : ∀ u v, a ≠ .Starred u v) (hsb : ∀ u v, b ≠ .Starred u v) (hf : [a, b].all (foldedForSure 8) = false) (hc : [a, b].all (constantsAlone 8) = false) :
    swappedStores [.Tuple [.Name n p1, .Name n' p2] k1 p3] (.Tuple [a, b] k2 p4) env = pure (some [n, n']) := by
  have k1 : env.kindOf n = some .local := h1
  have k2 : env.kindOf n' = some .local := h2
  have hb : env.blockKind = .function := by unfold Env.blockKind; rw [hk]; rfl
  obtain ⟨l1, l2⟩ := Bool.and_eq_true_iff.mp hln
  unfold swappedStores
  simp only [hb, List.length_cons, List.length_nil]
  rw [if_neg (by decide)]
  rw [if_neg (by
    intro hh
    rw [List.any_cons, List.any_cons, List.any_nil, Bool.or_false, Bool.or_eq_true] at hh
    rcases hh with h | h
    · split at h
      · exact hsa _ _ rfl
      · cases h
    · split at h
      · exact hsb _ _ rfl
      · cases h)]
  simp only [List.head?_cons, Option.map_some, Option.getD_some, Expr.pos, List.filterMap_cons, k1, k2, l1, l2, List.filterMap_nil, beq_self_eq_true, Bool.and_self, if_true, List.length_cons, List.length_nil]
  rw [if_neg (by simpa using hne), if_neg (by rw [hf]; decide), if_neg (by rw [hc]; decide)]
theorem sx_par (i j : Nat) {n n' : Str} {p1 p2 p3 p4 : Pos} {k1 k2 : _} {r : R α} {q : R β} {mx : Option (α × β × Unit)} {m : α → β → Option O} (h : Ea C B Γ [a, b] (aC (vS r) (aC (vS q) aN)) mx) (k : ∀ x y, Sx C B ((Γ.set i (.sh r x)).set j (.sh q y)) rest (m x y) P)
    (hij : i ≠ j := by decide) (hN : C.N[i]? = some n := by rfl) (hN' : C.N[j]? = some n' := by rfl) (hl : C.sc.names.lookup n = some .local := by rfl) (hl' : C.sc.names.lookup n' = some .local := by rfl) (hk : C.sc.kind = .function := by rfl)
    (hln : (p1.line == p1.line && p2.line == p1.line) = true := by rfl) (hne : ([n, n'].eraseDups.length != 2) = false := by decide)
    (hsa : ∀ u v, a ≠ .Starred u v := by intro _ _ h; cases h) (hsb : ∀ u v, b ≠ .Starred u v := by intro _ _ h; cases h) (hf : [a, b].all (foldedForSure 8) = false := by rfl) (hc : [a, b].all (constantsAlone 8) = false := by rfl) :
    Sx C B Γ (.Assign [.Tuple [.Name n p1, .Name n' p2] k1 p3] (.Tuple [a, b] k2 p4) pos :: rest) (mx.bind fun t => m t.1 t.2.1) P := by
  intro X hX σ F H D o a' hm hp
  obtain ⟨x, hx, hz⟩ := bd_some hm
  refine tS_of (pss_cons (ps_par hX.calm (by rw [hX.N]; exact hX.nd) (by rw [hX.N]; exact hN) (by rw [hX.N]; exact hN') hij (by rw [hX.sc]; exact hl) (by rw [hX.sc]; exact hl') pa_self (swp_ok (by rw [hX.sc]; exact hk) (by rw [hX.sc]; exact hl) (by rw [hX.sc]; exact hl') hln hne hsa hsb hf hc)) pss_self) (h X hX σ F H _ x a' hx fun vs F' H' x1 ⟨v, ws, e1, q1, w, us, e2, q2, e3⟩ => ?_)
  subst e3; subst e2; subst e1
  exact ⟨v, w, rfl, k x.1 x.2.1 X hX _ F' H' D o (((a'.ext x1).put q1).put q2) hz (P.mono x1.f hp)⟩
/-- x += e -/
theorem ps_augC {X : Cx} (hX : Is C X) {i : Nat} {n : Str} {te : TE} {p2 : Pos} {op : Operator} {rr : R2} (hN : C.N[i]? = some n) (hl : LocN C n) (he : PE X e te) (ho : OpR X (inplaceOp op) rr) : PS X (.AugAssign (.Name n p2) op e pos) (tAug i te rr) := by
  have hi : X.N[i]? = some n := by rw [hX.N]; exact hN
  have nd : X.N.Nodup := by rw [hX.N]; exact hX.nd
  have hip : PIp X op rr := fun pins s σ H x y v u Q I r1 r2 h => ho pins s σ H x y v u Q I r1 r2 h
  rcases hl with q | ⟨q, f⟩
  · exact ps_aug nd hi (.inl (by rw [hX.sc]; exact q)) he hip (.inr (by rw [hX.sc]; exact q))
  · exact ps_aug nd hi (.inr (by rw [hX.sc]; exact q)) he hip (.inl (by rw [hX.fnx]; exact f))
theorem sx_aug (i : Nat) {n : Str} {p2 : Pos} {op : Operator} {r : R α} {q : R β} {x : α} {mx : Option β} {g : α → β → Option α} {m : α → Option O} (o : O2 C (inplaceOp op) (vS r) (vS q) (vS r) g) (h : Ex C B Γ e (vS q) mx) (k : ∀ x, Sx C B (Γ.set i (.sh r x)) rest (m x) P)
    (hi : Γ[i]? = some (.sh r x) := by rfl) (hN : C.N[i]? = some n := by rfl) (hl : LocN C n := by first | exact Or.inl rfl | exact Or.inr ⟨rfl, rfl⟩) :
    Sx C B Γ (.AugAssign (.Name n p2) op e pos :: rest) ((mx.bind fun y => g x y).bind m) P := by
  intro X hX σ F H D oo a hm hp
  obtain ⟨z, hz0, hz⟩ := bd_some hm
  obtain ⟨y, hy, hg⟩ := bd_some hz0
  obtain ⟨rr, ho, hr⟩ := o.run X hX
  obtain ⟨v, h1, h2⟩ := a.sl i _ hi
  refine tS_of (pss_cons (ps_augC hX hN hl pe_self ho) pss_self) ⟨v, h1, h X hX σ F H _ y a hy fun w F1 H1 x1 q1 => ?_⟩
  exact hr F1 H1 v w x y z _ x1.fh (r.up x1.f h2) q1 hg fun u F' H' x2 q2 => k z X hX _ F' H' D oo ((a.ext (x1.trans x2)).put q2) hz (P.mono (x1.trans x2).f hp)
/-- an expression dropped -/
theorem sx_expr {M : Vp α} {mx : Option α} {m : Option O} (h : Ex C B Γ e M mx) (k : Sx C B Γ rest m P) (hs : NoSw e := by intro _ _ _; rfl) : Sx C B Γ (.Expr e pos :: rest) (mx.bind fun _ => m) P := by
  intro X hX σ F H D o a hm hp
  obtain ⟨x, hx, hz⟩ := bd_some hm
  refine tS_of (pss_cons (ps_expr pe_self (hs _ _ _)) pss_self) (h X hX σ F H _ x a hx fun v F' H' x1 q => ?_)
  exact k X hX σ F' H' D o (a.ext x1) hz (P.mono x1.f hp)

/-! ### lists that grow -/
def appG (xs : List α) (y : α) : Option (List α) := if xs.length < sizeLine then some (xs ++ [y]) else none
theorem isList_tyV {K : Fg} {H : Hp} {p : Addr} {vs : List V} (h : H p = some (.lst vs)) : tyV K "list" (.ref p) H := .inl ⟨rfl, vs, .inl (.inl h)⟩
/-- xs.append(e) -/
theorem sx_app (i : Nat) {n : Str} {p2 apos cpos : Pos} {r : R α} {xs : List α} {mx : Option α} {m : List α → Option O} (h : Ex C B Γ e (vS r) mx) (k : ∀ x, Sx C B (Γ.set i (.ow (oL r) x)) rest (m x) P)
    (hi : Γ[i]? = some (.ow (oL r) xs) := by rfl) (hN : C.N[i]? = some n := by rfl) (hv : Vis C.sc n := by first | exact Or.inl rfl | exact Or.inr (Or.inl rfl) | exact Or.inr (Or.inr rfl)) (hd : (n == ("__debug__" : Str)) = false := by decide) (hcd : (n == ("__classdict__" : Str)) = false := by decide)
    (hst : ∀ env : Env, starEach [e] env = (false, eval e env) :: starEach [] env := by intro _; rfl)
    (hb : ∀ env : Env, attributeBase (.Name n p2) ("append" : Str) env (eval (.Name n p2) env) = eval (.Name n p2) env := by intro _; rfl)
    (hfew : ∀ env : Env, ((backTo cpos (starEach [e] env)).all (fun x => !x.1) && (backToKw cpos (keywordEach [] env)).all (fun x => x.1.isSome) && decide (([e] : List Expr).length + ([] : List Keyword).length + (if ([] : List Keyword).isEmpty then 0 else 1) < 30)) = true := by intro _; rfl)
    (hline : (apos.endLine == cpos.line) = true := by rfl) :
    Sx C B Γ (.Expr (.Call (.Attribute (.Name n p2) ("append" : Str) apos) [e] [] cpos) pos :: rest) ((mx.bind fun y => appG xs y).bind m) P := by
  intro X hX σ F H D o a hm hp
  obtain ⟨z, hz0, hz⟩ := bd_some hm
  obtain ⟨y, hy, hg⟩ := bd_some hz0
  unfold appG at hg
  split at hg
  · rename_i hlt
    cases hg
    obtain ⟨p, ho, h1, h2, h3, h4, vs, rfl, h5, h6⟩ := a.sl i _ hi
    refine tS_of (pss_cons (ps_expr (pe_bm PySem.F.plainAttrs_list PySem.F.slot_list_append PySem.F.type_list_append mt_append (pe_var (by rw [hX.N]; exact hN) (vis_of hX hv) hd hcd) (pa_cons pe_self pa_nil (hst X.env)) (hb X.env) (hfew X.env) hline (hst X.env) rfl)) pss_self)
      ⟨.ref p, h1, isList_tyV h4, h X hX σ F H _ y a hy fun w F1 H1 x1 q1 => ?_⟩
    refine ⟨p, vs, w, rfl, rfl, x1.h _ _ h4, by rw [h6.len]; exact hlt, ?_⟩
    have a1 := a.ext x1
    exact k _ X hX σ F1 _ D o (a1.chg hi h1 ⟨vs ++ [w], rfl, by rw [List.length_append, h6.len]; exact hlt, All2.app (All2.imp (fun _ _ z => r.up x1.f z) h6) (All2.one q1)⟩) hz (P.mono x1.f hp)
  · cases hg
/-- xs[i] = e -/
def setG (xs : List α) (i : Int) (y : α) : Option (List α) := (ixN xs.length i).map fun j => xs.set j y
theorem sx_setI (i : Nat) {n : Str} {p2 ps : Pos} {r : R α} {xs : List α} {mx : Option α} {mi : Option Int} {m : List α → Option O} (h : Ex C B Γ e (vS r) mx) (h2 : Ex C B Γ b (vS rI) mi) (k : ∀ x, Sx C B (Γ.set i (.ow (oL r) x)) rest (m x) P)
    (hi : Γ[i]? = some (.ow (oL r) xs) := by rfl) (hN : C.N[i]? = some n := by rfl) (hv : Vis C.sc n := by first | exact Or.inl rfl | exact Or.inr (Or.inl rfl) | exact Or.inr (Or.inr rfl)) (hd : (n == ("__debug__" : Str)) = false := by decide) (hcd : (n == ("__classdict__" : Str)) = false := by decide)
    (ha : ∀ (env : Env) v, assign (.Subscript (.Name n p2) b ps) env v = (do
      let ov ← holding [v] (eval (.Name n p2) env)
      let iv ← holding [v, ov] (eval b env)
      standAt ps
      holding [v, ov, iv] (setItem ov iv v)
      release [v, ov, iv] []) := by intro _ _; rfl)
    (hs : ∀ (l : Nat) (env : Env), swapsWithSole [.Subscript (.Name n p2) b ps] e l env = pure false := by intro _ _; rfl) (hw : ∀ (env : Env), swappedStores [.Subscript (.Name n p2) b ps] e env = pure none := by intro _; rfl)
    (h1 : ∀ env : Env, (assignEach [.Subscript (.Name n p2) b ps] env).map (·.2) = [assign (.Subscript (.Name n p2) b ps) env] := by intro _; rfl) :
    Sx C B Γ (.Assign [.Subscript (.Name n p2) b ps] e pos :: rest) ((b2 mx mi fun y j => setG xs j y).bind m) P := by
  intro X hX σ F H D o a hm hp
  obtain ⟨z, hz0, hz⟩ := bd_some hm
  obtain ⟨y, j, hy, hj, hg⟩ := b2_some hz0
  obtain ⟨p, ho, g1, g2, g3, g4, vs, rfl, g5, g6⟩ := a.sl i _ hi
  unfold setG at hg
  cases hx : ixN xs.length j with
  | none => rw [hx] at hg; cases hg
  | some jj =>
    rw [hx] at hg
    cases hg
    refine tS_of (pss_cons (ps_asg pe_self (pg_sub (pe_var (by rw [hX.N]; exact hN) (vis_of hX hv) hd hcd) pe_self set_list (ha X.env)) (hs _ _) (hw _) (h1 _)) pss_self) (h X hX σ F H _ y a hy fun w F1 H1 x1 q1 => ?_)
    refine ⟨.ref p, g1, h2 X hX σ F1 H1 _ j (a.ext x1) hj fun u F2 H2 x2 q2 => ?_⟩
    have x12 := x1.trans x2
    refine ⟨p, vs, j, jj, rfl, q2, x12.h _ _ g4, by rw [g6.len]; exact hx, ?_⟩
    exact k _ X hX σ F2 _ D o ((a.ext x12).chg hi g1 ⟨vs.set jj w, rfl, by rw [List.length_set]; exact g5, All2.set jj (r.up x2.f q1) (All2.imp (fun _ _ z => r.up x12.f z) g6)⟩) hz (P.mono x12.f hp)
/-- a list is changed no more -/
theorem sx_frz (i : Nat) {r : R α} {xs : List α} {m : Option O} (k : Sx C B (Γ.set i (.sh (rL r) xs)) sts m P) (hi : Γ[i]? = some (.ow (oL r) xs) := by rfl) : Sx C B Γ sts m P := by
  intro X hX σ F H D o a hm hp
  obtain ⟨p, ho, h1, h2, h3, h4, vs, rfl, h5, h6⟩ := a.sl i _ hi
  have f1 : Same F (upd F p (.lst vs)) := Same.upd h3
  refine k X hX σ (upd F p (.lst vs)) H D o (a.settle hi (fun q n => upd_ne fun e => n (by subst e; exact h1)) f1 (fun c u q => ?_) ⟨_, h1, p, vs, rfl, upd_same, h5, All2.imp (fun _ _ z => r.up f1 z) h6⟩ rfl) hm (P.mono f1 hp)
  by_cases hc : c = p
  · subst hc; rw [upd_same] at q; cases q; exact h4
  · rw [upd_ne hc] at q; exact a.fh _ _ q


/-! ### if -/
/-- if c: A (A leaves); rest -/
theorem sx_ifR {c : Expr} {A : List Stmt} {mc : Option Bool} {m n : Option O} (hc : Tt C B Γ c mc) (h1 : Sx C B Γ A m P) (h2 : Sx C B Γ rest n P) (fin : Fin P) : Sx C B Γ (.If c A [] pos :: rest) (bIf mc m n) P := by
  intro X hX σ F H D o a hm hp
  obtain ⟨k, hk, e2⟩ := bd_some hm
  refine tS_of (pss_cons (ps_if pt_self pss_self pss_nil) pss_self) (hc X hX σ F H _ k a hk fun F1 H1 x1 => ?_)
  cases k with
  | true => exact iteT (h1 X hX σ F1 H1 _ o (a.ext x1) e2 (fin _ _ _ _ (P.mono x1.f hp)))
  | false => exact iteF (h2 X hX σ F1 H1 D o (a.ext x1) e2 (P.mono x1.f hp))
theorem sx_ifR0 {c : Expr} {A : List Stmt} {mc : Bool} {m n : Option O} (hc : Tt C B Γ c (some mc)) (h1 : Sx C B Γ A m P) (h2 : Sx C B Γ rest n P) (fin : Fin P) : Sx C B Γ (.If c A [] pos :: rest) (if mc = true then m else n) P := sx_ifR hc h1 h2 fin
/-- if c: raise ..; rest -/
theorem sx_ifN {c : Expr} {A : List Stmt} {mc : Option Bool} {n : Option O} (hc : Tt C B Γ c mc) (h2 : Sx C B Γ rest n P) : Sx C B Γ (.If c A [] pos :: rest) (bIf mc none n) P := by
  intro X hX σ F H D o a hm hp
  obtain ⟨k, hk, e2⟩ := bd_some hm
  refine tS_of (pss_cons (ps_if pt_self pss_self pss_nil) pss_self) (hc X hX σ F H _ k a hk fun F1 H1 x1 => ?_)
  cases k with
  | true => cases e2
  | false => exact iteF (h2 X hX σ F1 H1 D o (a.ext x1) e2 (P.mono x1.f hp))
/-- .. in a loop's body -/
theorem sx_ifO {c : Expr} {A : List Stmt} {mc : Option Bool} {m : Option (Lv L ρ)} {n : Option (Out S L ρ)} (hc : Tt C B Γ c mc) (h1 : Sx C B Γ A m (pL C B Γl res)) (h2 : Sx C B Γ rest n (pO C B Γo Γl res)) :
    Sx C B Γ (.If c A [] pos :: rest) (bIf mc (m.map .lv) n) (pO C B Γo Γl res) := by
  intro X hX σ F H D o a hm hp
  obtain ⟨k, hk, e2⟩ := bd_some hm
  refine tS_of (pss_cons (ps_if pt_self pss_self pss_nil) pss_self) (hc X hX σ F H _ k a hk fun F1 H1 x1 => ?_)
  cases k with
  | true =>
    cases m with
    | none => cases e2
    | some l =>
      cases e2
      exact iteT (h1 X hX σ F1 H1 _ l (a.ext x1) rfl (fin_L l _ _ _ ((pL C B Γl res).mono x1.f hp)))
  | false => exact iteF (h2 X hX σ F1 H1 D o (a.ext x1) e2 ((pO C B Γo Γl res).mono x1.f hp))
/-- an if at the end of a block -/
theorem sx_ifE {c : Expr} {A A' : List Stmt} {mc : Option Bool} {m n : Option O} (hc : Tt C B Γ c mc) (h1 : Sx C B Γ A m P) (h2 : Sx C B Γ A' n P) : Sx C B Γ [.If c A A' pos] (bIf mc m n) P := by
  intro X hX σ F H D o a hm hp
  obtain ⟨k, hk, e2⟩ := bd_some hm
  refine tS_of (pss_one (ps_if pt_self pss_self pss_self)) (hc X hX σ F H _ k a hk fun F1 H1 x1 => ?_)
  cases k with
  | true => exact iteT (h1 X hX σ F1 H1 D o (a.ext x1) e2 (P.mono x1.f hp))
  | false => exact iteF (h2 X hX σ F1 H1 D o (a.ext x1) e2 (P.mono x1.f hp))
/-- an if whose ways join -/
theorem sx_ifJ {c : Expr} {A A' : List Stmt} {mc : Option Bool} {m n : Option S} {k : S → Option O} (Γo : S → List Sl) (hc : Tt C B Γ c mc) (h1 : Sx C B Γ A m (pN C B Γo)) (h2 : Sx C B Γ A' n (pN C B Γo)) (h3 : ∀ s, Sx C B (Γo s) rest (k s) P) : Sx C B Γ (.If c A A' pos :: rest) ((bIf mc m n).bind k) P := by
  intro X hX σ F H D o a hm hp
  obtain ⟨s, hs, e2⟩ := bd_some hm
  obtain ⟨b, hb, e3⟩ := bd_some hs
  refine tS_of (pss_cons (ps_if pt_self pss_self pss_self) pss_self) (hc X hX σ F H _ b a hb fun F1 H1 x1 => ?_)
  have fin : ∀ σ2 F2 H2, Same F1 F2 → At C.K B (Γo s) F2 H2 σ2 → tS X rest D σ2 H2 := fun σ2 F2 H2 f2 a2 => h3 s X hX σ2 F2 H2 D o a2 e2 (P.mono (x1.f.trans f2) hp)
  cases b with
  | true => exact iteT (h1 X hX σ F1 H1 _ s (a.ext x1) e3 fin)
  | false => exact iteF (h2 X hX σ F1 H1 _ s (a.ext x1) e3 fin)
/-- .. that may leave -/
theorem sx_ifJO {S' : Type} {c : Expr} {A A' : List Stmt} {mc : Option Bool} {m n : Option (Out S' L ρ)} {k : S' → Option (Out S L ρ)} (Γ1 : S' → List Sl) (hc : Tt C B Γ c mc) (h1 : Sx C B Γ A m (pO C B Γ1 Γl res)) (h2 : Sx C B Γ A' n (pO C B Γ1 Γl res)) (h3 : ∀ s, Sx C B (Γ1 s) rest (k s) (pO C B Γo Γl res)) :
    Sx C B Γ (.If c A A' pos :: rest) ((bIf mc m n).bind fun o => match o with | .nx s => k s | .lv l => some (.lv l)) (pO C B Γo Γl res) := by
  intro X hX σ F H D o a hm hp
  obtain ⟨s, hs, e2⟩ := bd_some hm
  obtain ⟨b, hb, e3⟩ := bd_some hs
  refine tS_of (pss_cons (ps_if pt_self pss_self pss_self) pss_self) (hc X hX σ F H _ b a hb fun F1 H1 x1 => ?_)
  have fin : (pO C B Γ1 Γl res).p s F1 { D with nx := tS X rest D } := by
    cases s with
    | nx s => exact fun σ2 F2 H2 f2 a2 => h3 s X hX σ2 F2 H2 D o a2 e2 ((pO C B Γo Γl res).mono (x1.f.trans f2) hp)
    | lv l => cases e2; exact fin_L l _ _ _ ((pL C B Γl res).mono x1.f hp)
  cases b with
  | true => exact iteT (h1 X hX σ F1 H1 _ s (a.ext x1) e3 fin)
  | false => exact iteF (h2 X hX σ F1 H1 _ s (a.ext x1) e3 fin)

/-! ### for -/
inductive Lo (S ρ : Type) where
  | dn (s : S)
  | rt (r : ρ)
/-- a loop whose turns may stop it -/
def forL (f : S → α → Option (Out S S ρ)) : List α → S → Option (Lo S ρ)
  | [], s => some (.dn s)
  | x :: xs, s => (f s x).bind fun o => match o with
    | .nx s' => forL f xs s'
    | .lv (.ct s') => forL f xs s'
    | .lv (.bk s') => some (.dn s')
    | .lv (.rt r) => some (.rt r)
/-- .. whose turns all run through -/
def forM (f : S → α → Option S) : List α → S → Option S
  | [], s => some s
  | x :: xs, s => (f s x).bind fun s' => forM f xs s'
theorem forM_total (f : S → α → S) : ∀ (xs : List α) (s : S), forM (fun s x => some (f s x)) xs s = some (xs.foldl f s)
  | [], _ => rfl
  | x :: xs, s => by unfold forM; exact forM_total f xs (f s x)
def loR {S ρ : Type} (m : Option (Lo S ρ)) (k : S → Option ρ) : Option ρ := m.bind fun o => match o with | .dn s => k s | .rt y => some y
def loO {S S' L ρ : Type} (m : Option (Lo S' ρ)) (k : S' → Option (Out S L ρ)) : Option (Out S L ρ) := m.bind fun o => match o with | .dn s => k s | .rt y => some (.lv (.rt y))
theorem for_key {X : Cx} (hX : Is C X) {iter : Expr} {body : List Stmt} {r : R α} {put : List Sl → α → List Sl} {ix : List Nat} {mi : Option (List α)} {S : Type} {s0 : S} {f : S → α → Option (Out S S ρ)} (Γl : S → List Sl) (res : Rs ρ)
    (hi : Ii C B Γ tg iter true r mi) (hg : Gt C tg r put ix) (w : Wk Γ (Γl s0)) (hb : ∀ s x, Sx C B (put (Γl s) x) body (f s x) (pO C B Γl Γl res)) (hs : ∀ (env : Env) x, foldedSetIterable iter env x = pure x) :
    ∃ t, PS X (.For tg iter body [] pos) t ∧ ∀ (σ : St) (F H : Hp) (D : Ends) (o : Lo S ρ), At C.K B Γ F H σ → (mi.bind fun xs => forL f xs s0) = some o →
      (match o with
        | .dn s => ∀ σ' F' H', Same F F' → At C.K B (Γl s) F' H' σ' → D.nx σ' H'
        | .rt y => ∀ v F' H', Ext B.F B.H F' H' → res C.K B.F B.H F' H' v y → D.rt v H') → t D σ H := by
  obtain ⟨g, eg, kg⟩ := hg X hX
  refine ⟨_, ps_for (by rw [hX.xe]; exact PassesOwn.never) hX.calm pi_self eg pss_self (hs X.env), fun σ F H D o at' hm hp => ?_⟩
  obtain ⟨xs, hxs, hz⟩ := bd_some hm
  refine hi X hX σ F H _ xs at' hxs fun J F1 H1 x1 wl => ?_
  obtain ⟨hsz, G, Y, wk, hG, hY⟩ := wl
  have at1 := at'.ext x1
  let Pv : Nat → St → Hp → Prop := fun i σ2 H2 => ∃ F2 s, Same F1 F2 ∧ At C.K B (Γl s) F2 H2 σ2 ∧ forL f (xs.drop i) s = some o
  refine for_it wk Pv ⟨F1, s0, Same.refl F1, at1.wk w, hz⟩ (fun i σ2 H2 _ ⟨F2, s, f2, a2, _⟩ => hG H2 (f2.trans a2.fh)) ?_ ?_
  · rintro i v σ2 H2 H3 hlt ⟨F2, s, f2, a2, hl⟩ y
    obtain ⟨F3, x, x3, hx3, hr⟩ := hY i F2 H2 v H3 hlt (f2.trans a2.fh) f2 a2.fh y
    have hd : xs.drop i = x :: xs.drop (i + 1) := by
      rw [List.drop_eq_getElem_cons hlt]
      have := List.getElem?_eq_getElem hlt
      rw [this] at hx3
      rw [Option.some.inj hx3]
    rw [hd] at hl
    unfold forL at hl
    obtain ⟨oo, ho, hl⟩ := bd_some hl
    have f3 := f2.trans x3.f
    refine kg B (Γl s) F3 H3 σ2 v x _ (a2.ext x3) hr fun σ4 a4 _ => ?_
    refine hb s x X hX σ4 F3 H3 _ oo a4 ho ?_
    have again : ∀ s', forL f (xs.drop (i + 1)) s' = some o → ∀ σ' F' H', Same F3 F' → At C.K B (Γl s') F' H' σ' → Pv (i + 1) σ' H' := fun s' h σ' F' H' f' a' => ⟨F', s', f3.trans f', a', h⟩
    cases oo with
    | nx s' => exact again s' hl
    | lv l =>
      cases l with
      | ct s' => exact again s' hl
      | bk s' => cases hl; exact fun σ' F' H' f' a' => hp σ' F' H' (x1.f.trans (f3.trans f')) a'
      | rt y => cases hl; exact hp
  · rintro σ2 H2 ⟨F2, s, f2, a2, hl⟩
    rw [List.drop_length] at hl
    cases hl
    exact hp σ2 F2 H2 (x1.f.trans f2) a2
/-- at the def's level -/
theorem sx_for {iter : Expr} {body : List Stmt} {r : R α} {put : List Sl → α → List Sl} {ix : List Nat} {mi : Option (List α)} {S : Type} {s0 : S} {f : S → α → Option (Out S S ρ)} {k : S → Option ρ} (Γl : S → List Sl)
    (hi : Ii C B Γ tg iter true r mi) (hg : Gt C tg r put ix) (w : Wk Γ (Γl s0)) (hb : ∀ s x, Sx C B (put (Γl s) x) body (f s x) (pO C B Γl Γl res)) (hk : ∀ s, Sx C B (Γl s) rest (k s) (pR C B res)) (hs : ∀ (env : Env) x, foldedSetIterable iter env x = pure x := by intro _ _; rfl) :
    Sx C B Γ (.For tg iter body [] pos :: rest) (loR (mi.bind fun xs => forL f xs s0) k) (pR C B res) := by
  intro X hX σ F H D o a hm hp
  unfold loR at hm
  obtain ⟨t, e1, e2⟩ := for_key (pos := pos) hX Γl res hi hg w hb hs
  obtain ⟨q, hq, hz⟩ := bd_some hm
  refine tS_of (pss_cons e1 pss_self) (e2 σ F H _ q a hq ?_)
  cases q with
  | dn s => exact fun σ' F' H' f' a' => hk s X hX σ' F' H' D o a' hz hp
  | rt y => cases hz; exact hp
/-- in an outer loop's body -/
theorem sx_forO {iter : Expr} {body : List Stmt} {r : R α} {put : List Sl → α → List Sl} {ix : List Nat} {mi : Option (List α)} {S' : Type} {s0 : S'} {f : S' → α → Option (Out S' S' ρ)} {k : S' → Option (Out S L ρ)} (Γi : S' → List Sl)
    (hi : Ii C B Γ tg iter true r mi) (hg : Gt C tg r put ix) (w : Wk Γ (Γi s0)) (hb : ∀ s x, Sx C B (put (Γi s) x) body (f s x) (pO C B Γi Γi res)) (hk : ∀ s, Sx C B (Γi s) rest (k s) (pO C B Γo Γl res)) (hs : ∀ (env : Env) x, foldedSetIterable iter env x = pure x := by intro _ _; rfl) :
    Sx C B Γ (.For tg iter body [] pos :: rest) (loO (mi.bind fun xs => forL f xs s0) k) (pO C B Γo Γl res) := by
  intro X hX σ F H D o a hm hp
  unfold loO at hm
  obtain ⟨t, e1, e2⟩ := for_key (pos := pos) hX Γi res hi hg w hb hs
  obtain ⟨q, hq, hz⟩ := bd_some hm
  refine tS_of (pss_cons e1 pss_self) (e2 σ F H _ q a hq ?_)
  cases q with
  | dn s => exact fun σ' F' H' f' a' => hk s X hX σ' F' H' D o a' hz ((pO C B Γo Γl res).mono f' hp)
  | rt y => cases hz; exact hp
theorem forL_M {f : S → α → Option S} : ∀ (xs : List α) (s : S), forL (ρ := ρ) (fun s x => (f s x).map .nx) xs s = (forM f xs s).map .dn
  | [], s => rfl
  | x :: xs, s => by
    unfold forL forM
    cases h : f s x with
    | none => rfl
    | some s' => exact forL_M xs s'
/-- whose turns all run through, anywhere -/
theorem sx_forM {iter : Expr} {body : List Stmt} {r : R α} {put : List Sl → α → List Sl} {ix : List Nat} {mi : Option (List α)} {S : Type} {s0 : S} {f : S → α → Option S} {k : S → Option O} (Γl : S → List Sl)
    (hi : Ii C B Γ tg iter true r mi) (hg : Gt C tg r put ix) (w : Wk Γ (Γl s0)) (hb : ∀ s x, Sx C B (put (Γl s) x) body (f s x) (pN C B Γl)) (hk : ∀ s, Sx C B (Γl s) rest (k s) P) (hs : ∀ (env : Env) x, foldedSetIterable iter env x = pure x := by intro _ _; rfl) :
    Sx C B Γ (.For tg iter body [] pos :: rest) ((mi.bind fun xs => forM f xs s0).bind k) P := by
  intro X hX σ F H D o a hm hp
  have hb' : ∀ s x, Sx C B (put (Γl s) x) body ((f s x).map Out.nx) (pO C B Γl Γl (resS rN)) := fun s x X hX σ F H D o a hm hp => by
    cases hf : f s x with
    | none => rw [hf] at hm; cases hm
    | some s' =>
      rw [hf] at hm
      cases hm
      exact hb s x X hX σ F H D s' a hf hp
  obtain ⟨t, e1, e2⟩ := for_key (pos := pos) hX Γl (resS rN) hi hg w hb' hs
  obtain ⟨s, hq, hz⟩ := bd_some hm
  have hq' : (mi.bind fun xs => forL (ρ := Unit) (fun s x => (f s x).map Out.nx) xs s0) = some (Lo.dn s) := by
    cases mi with
    | none => cases hq
    | some xs =>
      have h1 : forM f xs s0 = some s := hq
      show forL _ xs s0 = _
      rw [forL_M, h1]
      rfl
  exact tS_of (pss_cons e1 pss_self) (e2 σ F H _ _ a hq' fun σ' F' H' f' a' => hk s X hX σ' F' H' D o a' hz (P.mono f' hp))
end
end L2.T
set_option Elab.async false
set_option linter.all false
set_option maxRecDepth 100000
/-! Defs. -/
namespace L2.T
open PySem PySem.Spec PyProof.Rows

/-- the slots of the arguments -/
structure ArS {τ : Type} (ar : Ar τ) (g : τ → List Sl) : Prop where
  ok : ∀ K F H vs t, ar.p K F H vs t → vs.length = (g t).length ∧ ∀ (i : Nat) (s : Sl), (g t)[i]? = some s → ∃ v, vs[i]? = some v ∧ isOw (some s) = false ∧ ∀ B, SlotOk K B F H (some (some v)) s
theorem ars_nil : ArS aN fun _ => [] := ⟨fun K F H vs t h => by cases h; exact ⟨rfl, fun i s h => by simp at h⟩⟩
theorem ars_cons {α τ : Type} {r : R α} {ar : Ar τ} {g : τ → List Sl} (h : ArS ar g) : ArS (aC (vS r) ar) (fun t => .sh r t.1 :: g t.2) := ⟨fun K F H vs t ⟨v, ws, e, q1, q2⟩ => by
  subst e
  obtain ⟨l, k⟩ := h.ok K F H ws t.2 q2
  refine ⟨congrArg (· + 1) l, fun i s hi => ?_⟩
  cases i with
  | zero =>
    have : Sl.sh r t.1 = s := by simpa using hi
    subst this
    exact ⟨v, rfl, rfl, fun B => ⟨v, rfl, q1⟩⟩
  | succ i =>
    obtain ⟨w, h1, h2, h3⟩ := k i s (by simpa using hi)
    exact ⟨w, by simpa using h1, h2, h3⟩⟩
/-- what a def's body is proved over -/
structure Dc where
  P : Program
  w : World
  K : Fg
  mg : Str → Option Value
  base : Heap
def Dc.cc (d : Dc) (N : List Str) (sc : Scope) (k : Nat) : Cc := ⟨d.P, d.w, d.K, d.mg, d.base, N, sc, k, fun _ => true⟩
theorem at_start {K : Fg} {F H : Hp} {τ : Type} {ar : Ar τ} {g : τ → List Sl} (S : ArS ar g) {N : List Str} {vs : List V} {t : τ} (h : ar.p K F H vs t) (f : Same F H) (hl : (g t).length ≤ N.length) :
    At K ⟨F, H⟩ (g t ++ List.replicate (N.length - (g t).length) .no) F H (start N vs) := by
  obtain ⟨l, k⟩ := S.ok K F H vs t h
  have ow : ∀ (j : Nat) (s : Sl), (g t ++ List.replicate (N.length - (g t).length) .no)[j]? = some s → isOw (some s) = false := fun j s e => by
    by_cases hj : j < (g t).length
    · rw [List.getElem?_append_left hj] at e
      obtain ⟨_, _, q, _⟩ := k j s e; exact q
    · rw [List.getElem?_append_right (by omega), List.getElem?_replicate] at e
      split at e
      · cases e; rfl
      · cases e
  refine ⟨Same.refl _, Same.refl _, f, fun _ _ _ => rfl, ?_, fun i s hi => ?_, fun i j s t q _ h1 _ h3 _ => foot_no (ow i s h1) h3⟩
  · unfold start
    rw [List.length_append, List.length_append, List.length_map, List.length_replicate, List.length_replicate, l]
  · by_cases hj : i < (g t).length
    · rw [List.getElem?_append_left hj] at hi
      obtain ⟨v, q1, _, q2⟩ := k i s hi
      have e : (start N vs)[i]? = some (some v) := by
        unfold start
        rw [List.getElem?_append_left (by rw [List.length_map, l]; exact hj), List.getElem?_map, q1]
        rfl
      rw [e]
      exact q2 _
    · rw [List.getElem?_append_right (by omega), List.getElem?_replicate] at hi
      split at hi
      · cases hi; trivial
      · cases hi
/-- THE RULE: a def keeps its promise -/
theorem fn_ok {d : Dc} {x qual : Str} {params : Arguments} {body : List Stmt} {scope : Scope} {dvs : List V} {kws : List (Str × V)} {f : Addr} {fd : FuncData} {N ps : List Str} {k : Nat} {τ β : Type} {ar : Ar τ} {g : τ → List Sl} {m : τ → Option β} {res : Rs β}
    (F : FunD d.K x qual params body scope dvs kws f fd) (S : FnScope N ps scope) (A : ArS ar g) (hl : ∀ t, (g t).length = ps.length)
    (hb : ∀ (B : Bs) (t : τ), Sx (d.cc N scope k) B (g t ++ List.replicate (N.length - (g t).length) .no) body (m t) (pR (d.cc N scope k) B res)) :
    FnOk d.P d.w d.K d.mg d.base CX0 (k + 1) f fd ps (spT d.K ar m res) := by
  have hN : ps.length ≤ N.length := by have := congrArg List.length S.pre; rw [List.length_take] at this; omega
  refine F.ok S (fun vs H Q E ⟨F0, t, y, f0, ha, hm, kk⟩ => by rw [(A.ok _ _ _ _ _ ha).1, hl]) fun cdv A' outer s H vs Q E hr ⟨F0, t, y, f0, ha, hm, kk⟩ => ?_
  refine ⟨_, PSs.nox pss_self, ?_⟩
  have hX : Is (d.cc N scope k) (cxOf CX0 d.P d.w d.K d.mg d.base N qual scope f cdv A' outer s H E).nox := ⟨rfl, rfl, rfl, rfl, rfl, rfl, S.nd, rfl, hr, rfl, rfl, rfl⟩
  exact hb ⟨F0, H⟩ t _ hX (start N vs) F0 H _ y (at_start A ha f0 (by rw [hl]; exact hN)) hm kk
/-- how a def is known to its callers -/
theorem fk_of {d : Dc} {N : List Str} {sc : Scope} {x : Str} {n k K : Nat} {f : Addr} {fd : FuncData} {ps : List Str} {τ β : Type} {ar : Ar τ} {m : τ → Option β} {res : Rs β} (F : FnOk d.P d.w d.K d.mg d.base CX0 k f fd ps (spT d.K ar m res)) (hm : d.mg x = some (.ref f)) (hk : PySem.W.keepIn d.K (.ref f) = true)
    (hb : Binds d.K fd ps []) (h : k ≤ K) : Fk (d.cc N sc K) x n ar m res :=
  ⟨k, f, fd, ps, [], [], _, h, hm, hk, hb, .nil, F, fun vs H Q E _ q => by rw [List.append_nil]; exact q⟩
/-- in a block -/
theorem Fk.blk {C : Cc} {x : Str} {n : Nat} {τ β : Type} {ar : Ar τ} {m : τ → Option β} {res : Rs β} (h : Fk C x n ar m res) (scope : Scope) : Fk (C.blk scope) x n ar m res := ⟨h.ex⟩
theorem Fk.to {C : Cc} {C' : Cc} {x : Str} {n : Nat} {τ β : Type} {ar : Ar τ} {m : τ → Option β} {res : Rs β} (h : Fk C x n ar m res) (eP : C'.P = C.P) (ew : C'.w = C.w) (eK : C'.K = C.K) (em : C'.mg = C.mg) (eb : C'.base = C.base) (ek : C.k ≤ C'.k) : Fk C' x n ar m res := by
  obtain ⟨k, a, fd, ps, dvs, ds, sp, h1, h2, h3, h4, h5, h6, h7⟩ := h.ex
  exact ⟨k, a, fd, ps, dvs, ds, sp, Nat.le_trans h1 ek, by rw [em]; exact h2, by rw [eK]; exact h3, by rw [eK]; exact h4, h5, by rw [eP, ew, eK, em, eb]; exact h6, fun vs H Q E hl q => h7 vs H Q E hl (by rw [eK] at q; exact q)⟩
end L2.T
set_option Elab.async false
set_option linter.all false
set_option maxRecDepth 100000
/-! Instances of own classes; isinstance. -/
namespace L2.T
open PySem PySem.Spec PyProof.Rows

/-! ### fields -/
structure Fd (τ : Type) where
  names : List Str
  rep : Fg → Hp → List (Str × V) → τ → Prop
  up : ∀ {K : Fg} {F F' : Hp} {fs : List (Str × V)} {x : τ}, Same F F' → rep K F fs x → rep K F' fs x
  ext : ∀ {K : Fg} {F : Hp} {fs : List (Str × V)} {x : τ} {f : Str} {v : V}, f ∉ names → rep K F fs x → rep K F (putF f v fs) x
def fN : Fd Unit := ⟨[], fun _ _ _ _ => True, fun _ h => h, fun _ h => h⟩
def fC {α τ : Type} (f : Str) (r : R α) (d : Fd τ) : Fd (α × τ) := ⟨f :: d.names, fun K F fs x => (∃ v, fs.lookup f = some v ∧ r.rep K F v x.1) ∧ d.rep K F fs x.2,
  fun e ⟨⟨v, h1, h2⟩, h3⟩ => ⟨⟨v, h1, r.up e h2⟩, d.up e h3⟩,
  fun {K F fs x g v} hn ⟨⟨u, h1, h2⟩, h3⟩ => ⟨⟨u, by rw [lookup_putF, if_neg (fun e => hn (by simp [e]))]; exact h1, h2⟩, d.ext (fun z => hn (List.mem_cons_of_mem _ z)) h3⟩⟩
/-- an instance of the class that the module's name x holds -/
def rIns {τ : Type} (x : Str) (d : Fd τ) : R τ := ⟨fun K F v y => ∃ a dx fs, v = .ref a ∧ F a = some (.ins (He.ga K x) dx fs) ∧ d.rep K F fs y, fun e ⟨a, dx, fs, h1, h2, h3⟩ => ⟨a, dx, fs, h1, e _ _ h2, d.up e h3⟩⟩
theorem nnIns {τ : Type} {x : Str} {d : Fd τ} : NN (rIns x d) := fun _ _ _ _ ⟨_, _, _, h, _⟩ => by rw [h]; intro z; cases z
/-- an instance that is being made at p -/
def oIns {τ : Type} (p : Addr) (x : Str) (d : Fd τ) : Ob τ := ⟨fun K F q ho y => q = p ∧ ∃ dx fs, ho = .ins (He.ga K x) dx fs ∧ fs.length ≤ d.names.length ∧ d.rep K F fs y, fun e ⟨h0, dx, fs, h1, h2, h3⟩ => ⟨h0, dx, fs, h1, h2, d.up e h3⟩⟩
/-- the field f is told by r, at g -/
def FAt {τ α : Type} (d : Fd τ) (f : Str) (r : R α) (g : τ → α) : Prop := ∀ K F fs x, d.rep K F fs x → ∃ v, fs.lookup f = some v ∧ r.rep K F v (g x)
theorem fat_0 {α τ : Type} {f : Str} {r : R α} {d : Fd τ} : FAt (fC f r d) f r (·.1) := fun _ _ _ _ h => h.1
theorem fat_S {α β τ : Type} {f g : Str} {r : R α} {q : R β} {d : Fd τ} {h : τ → β} (a : FAt d g q h) : FAt (fC f r d) g q (fun x => h x.2) := fun K F fs x e => a K F fs x.2 e.2
section
variable {C : Cc} {B : Bs} {Γ : List Sl} {O : Type} {P : Po O} {α β γ τ ρ : Type} {e a b : Expr} {es : List Expr} {pos : Pos} {rest : List Stmt}
theorem ex_fld {x f : Str} {d : Fd τ} {r : R α} {g : τ → α} {m : Option τ} (A : FAt d f r g) (cl : Cls C.K (He.ga C.K x)) (na : NoAttr C.K (He.ga C.K x) f) (h : Ex C B Γ e (vS (rIns x d)) m)
    (hb : ∀ env : Env, attributeBase e f env (eval e env) = eval e env := by intro _; rfl) : Ex C B Γ (.Attribute e f pos) (vS r) (m.map g) := by
  intro X hX σ F H Q z at' hm k
  cases m with
  | none => cases hm
  | some t =>
    cases hm
    refine tE_of (pe_fld pe_self (hb X.env)) (h X hX σ F H _ t at' rfl fun v F' H' x1 ⟨p, dx, fs, e1, e2, e3⟩ => ?_)
    obtain ⟨w, e4, e5⟩ := A _ _ _ _ e3
    exact ⟨p, He.ga C.K x, dx, fs, w, e1, x1.fh _ _ e2, by rw [hX.K]; exact cl, by rw [hX.K]; exact na, e4, k w F' H' x1 e5⟩
theorem ex_fld0 {x f : Str} {d : Fd τ} {r : R α} {g : τ → α} {t : τ} (A : FAt d f r g) (cl : Cls C.K (He.ga C.K x)) (na : NoAttr C.K (He.ga C.K x) f) (h : Ex C B Γ e (vS (rIns x d)) (some t))
    (hb : ∀ env : Env, attributeBase e f env (eval e env) = eval e env := by intro _; rfl) {y : α} (hr : g t = y := by rfl) : Ex C B Γ (.Attribute e f pos) (vS r) (some y) := hr ▸ ex_fld A cl na h hb
/-- self.f = e -/
theorem sx_fld (i : Nat) {p : Addr} {x f n : Str} {p2 p3 : Pos} {d : Fd τ} {r : R α} {t : τ} {mx : Option α} {m : α → Option O} (h : Ex C B Γ e (vS r) mx) (cl : Cls C.K (He.ga C.K x)) (na : NoAttr C.K (He.ga C.K x) f) (k : ∀ y, Sx C B (Γ.set i (.ow (oIns p x (fC f r d)) (y, t))) rest (m y) P)
    (hf : f ∉ d.names) (hl : d.names.length < 1000) (hi : Γ[i]? = some (.ow (oIns p x d) t) := by rfl) (hN : C.N[i]? = some n := by rfl) (hv : Vis C.sc n := by first | exact Or.inl rfl | exact Or.inr (Or.inl rfl) | exact Or.inr (Or.inr rfl)) (hd : (n == ("__debug__" : Str)) = false := by decide) (hcd : (n == ("__classdict__" : Str)) = false := by decide)
    (hs : NoSw e := by intro _ _ _; rfl) : Sx C B Γ (.Assign [.Attribute (.Name n p2) f p3] e pos :: rest) (mx.bind m) P := by
  intro X hX σ F H D o a hm hp
  obtain ⟨y, hy, hz⟩ := bd_some hm
  obtain ⟨q, ho, h1, h2, h3, h4, eq, dx, fs, rfl, h5, h6⟩ := a.sl i _ hi
  refine tS_of (pss_cons (ps_fld (pe_var (by rw [hX.N]; exact hN) (vis_of hX hv) hd hcd) pe_self (hs _ _ _)) pss_self) (h X hX σ F H _ y a hy fun w F1 H1 x1 q1 => ?_)
  have a1 := a.ext x1
  have hlt : fs.length < 1000 := by omega
  refine ⟨.ref q, h1, q, He.ga C.K x, dx, fs, rfl, x1.h _ _ h4, by rw [hX.K]; exact cl, by rw [hX.K]; exact na, hlt, ?_⟩
  refine k y X hX σ F1 _ D o (a1.chg hi h1 ⟨eq, dx, putF f w fs, rfl, ?_, ⟨w, by rw [lookup_putF, if_pos rfl], q1⟩, d.ext hf (d.up x1.f h6)⟩) hz (P.mono x1.f hp)
  have := length_putF f w fs
  show (putF f w fs).length ≤ (f :: d.names).length
  simp only [List.length_cons]
  omega

/-! ### constructors -/
def wo (H : Hp) (p : Addr) : Hp := fun a => if a = p then none else H a
theorem wo_ne {H : Hp} {p a : Addr} (h : a ≠ p) : wo H p a = H a := if_neg h
theorem wo_same {H : Hp} {p : Addr} : wo H p p = none := if_pos rfl
/-- the promise of an __init__ -/
def spI (K : Fg) (x : Str) (ar : Ar τ) (m : τ → Option β) (d : Fd β) : Sp := fun vs H Q _ => ∃ F p dx ws t y, vs = .ref p :: ws ∧ H p = some (.ins (He.ga K x) dx []) ∧ F p = none ∧ Same F (wo H p) ∧ ar.p K F (wo H p) ws t ∧ m t = some y ∧
  ∀ F' H' ho, Ext F (wo H p) F' H' → F' p = none → H' p = some ho → (oIns p x d).rep K F' p ho y → Q .non H'
structure Fi (C : Cc) (x : Str) (n : Nat) (ar : Ar τ) (m : τ → Option β) (d : Fd β) : Prop where
  ex : ∃ (k : Nat) (a : Addr) (fd : FuncData) (ps : List Str) (dvs : List V) (ds : List Value) (sp : Sp), k + 1 ≤ C.k ∧ C.mg x = some (.ref (He.ga C.K x)) ∧ Mk C.K (He.ga C.K x) a ∧ Binds C.K fd ps ds ∧ Vals dvs ds ∧
    FnOk C.P C.w C.K C.mg C.base CX0 k a fd ps sp ∧ ∀ vs H Q E, vs.length = n + 1 → spI C.K x ar m d vs H Q E → sp (vs ++ dvs) H Q E
theorem Fi.blk {x : Str} {n : Nat} {ar : Ar τ} {m : τ → Option β} {d : Fd β} (h : Fi C x n ar m d) (scope : Scope) : Fi (C.blk scope) x n ar m d := ⟨h.ex⟩
theorem ex_make {x : Str} {p : Pos} {n : Nat} {ar : Ar τ} {d : Fd β} {f : τ → Option β} {m : Option τ} (G : Fi C x n ar f d) (ha : Ea C B Γ (e :: es) ar m) (hl : ∀ K F H vs t, ar.p K F H vs t → vs.length = n)
    (hg : C.sc.names.lookup x = some .globalImplicit := by rfl) (hst : StE e es := by exact ⟨fun _ => rfl, fun _ _ => rfl⟩) (hdb : (x == ("__debug__" : Str)) = false := by decide) : Ex C B Γ (.Call (.Name x p) (e :: es) [] pos) (vS (rIns x d)) (m.bind f) := by
  intro X hX σ F H Q z at' hmm k
  obtain ⟨t, ht, hz⟩ := bd_some hmm
  obtain ⟨kk, a, fd, ps, dvs, ds, sp, h1, h2, h3, h4, h5, h6, h7⟩ := G.ex
  obtain ⟨eP, ew, eK, em, eb⟩ := And.intro hX.P (And.intro hX.w (And.intro hX.K (And.intro hX.mg hX.base)))
  refine tE_of (pe_make (CX := CX0) (E := E0) (k := kk) (sp := sp) (by rw [eK]; exact h3) (by rw [eP, ew, eK, em, eb]; exact h6) (hX.room.mono h1) (gl_of hX hg) (by rw [em]; exact h2) (by rw [eK]; exact h4) h5 pass0 pa_self hdb (hst.1 X.env) (hst.2 _ X.env))
    (ha X hX σ F H _ t at' ht fun vs F1 H1 x1 q1 => ?_)
  intro y dx ny nd nyd
  have ne : wo (upd (upd H1 dx (.own y)) y (.ins (He.ga C.K x) dx [])) y = upd H1 dx (.own y) := by
    funext c
    by_cases hc : c = y
    · subst hc
      rw [wo_same, upd_ne (fun z => nyd z.symm), ny]
    · rw [wo_ne hc, upd_ne hc]
  have xo := Ext.own (o := .own y) x1.fh nd
  have sp0 : spI C.K x ar f d (.ref y :: vs) (upd (upd H1 dx (.own y)) y (.ins (He.ga C.K x) dx [])) (fun v H2 => v = .non ∧ Q (.ref y) H2) E0 := by
    refine ⟨F1, y, dx, vs, t, z, rfl, upd_same, x1.fh.free ny, by rw [ne]; exact xo.fh, by rw [ne]; exact ar.up xo q1, hz, fun F' H' ho x2 n1 n2 n3 => ⟨rfl, ?_⟩⟩
    rw [ne] at x2
    obtain ⟨_, dx', fs, rfl, _, hr⟩ := n3
    have x3 := xo.trans x2
    have x4 : Ext F1 H1 (upd F' y (.ins (He.ga C.K x) dx' fs)) H' := x3.settle ny n2 n1
    exact k (.ref y) _ H' (x1.trans x4) ⟨y, dx', fs, rfl, upd_same, d.up (Same.upd n1) hr⟩
  have := h7 (.ref y :: vs) _ _ E0 (by rw [List.length_cons, hl _ _ _ _ _ q1]) sp0
  exact this
theorem ex_make0 {x : Str} {p : Pos} {n : Nat} {ar : Ar τ} {d : Fd β} {f : τ → Option β} {t : τ} (G : Fi C x n ar f d) (ha : Ea C B Γ (e :: es) ar (some t)) (hl : ∀ K F H vs t, ar.p K F H vs t → vs.length = n)
    (hg : C.sc.names.lookup x = some .globalImplicit := by rfl) (hst : StE e es := by exact ⟨fun _ => rfl, fun _ _ => rfl⟩) (hdb : (x == ("__debug__" : Str)) = false := by decide) {m : Option β} (hr : f t = m := by rfl) : Ex C B Γ (.Call (.Name x p) (e :: es) [] pos) (vS (rIns x d)) m := hr ▸ ex_make (m := some t) G ha hl hg hst hdb
end
theorem init_ok {dc : Dc} {x qual nm : Str} {params : Arguments} {body : List Stmt} {scope : Scope} {dvs : List V} {kws : List (Str × V)} {f : Addr} {fd : FuncData} {N ps : List Str} {k : Nat} {τ β : Type} {ar : Ar τ} {g : τ → List Sl} {m : τ → Option β} {d : Fd β} {tl : β → List Sl}
    (F : FunD dc.K nm qual params body scope dvs kws f fd) (S : FnScope N ps scope) (A : ArS ar g) (hl : ∀ t, (g t).length + 1 = ps.length)
    (hb : ∀ (B : Bs) (p : Addr) (t : τ), Sx (dc.cc N scope k) B (.ow (oIns p x fN) () :: g t ++ List.replicate (N.length - ((g t).length + 1)) .no) body (m t) (pN (dc.cc N scope k) B fun y => .ow (oIns p x d) y :: tl y)) :
    FnOk dc.P dc.w dc.K dc.mg dc.base CX0 (k + 1) f fd ps (spI dc.K x ar m d) := by
  have hN : ps.length ≤ N.length := by have := congrArg List.length S.pre; rw [List.length_take] at this; omega
  refine F.ok S (fun vs H Q E ⟨F0, p, dx, ws, t, y, e1, _, _, _, ha, _⟩ => by subst e1; rw [List.length_cons, (A.ok _ _ _ _ _ ha).1, hl]) fun cdv A' outer s H vs Q E hr ⟨F0, p, dx, ws, t, y, e1, hp, n0, f0, ha, hm, kk⟩ => ?_
  subst e1
  refine ⟨_, PSs.nox pss_self, ?_⟩
  have hX : Is (dc.cc N scope k) (cxOf CX0 dc.P dc.w dc.K dc.mg dc.base N qual scope f cdv A' outer s H E).nox := ⟨rfl, rfl, rfl, rfl, rfl, rfl, S.nd, rfl, hr, rfl, rfl, rfl⟩
  obtain ⟨l, kA⟩ := A.ok _ _ _ _ _ ha
  have hl' := hl t
  have same : Same (wo H p) H := fun b o e => by
    by_cases hb : b = p
    · subst hb; rw [wo_same] at e; cases e
    · rw [wo_ne hb] at e; exact e
  have getG : ∀ (i : Nat) (s : Sl), (g t ++ List.replicate (N.length - ((g t).length + 1)) .no)[i]? = some s → s = .no ∨ ∃ v, ws[i]? = some v ∧ isOw (some s) = false ∧ ∀ B, SlotOk dc.K B F0 (wo H p) (some (some v)) s := fun i s hi => by
    by_cases hj : i < (g t).length
    · rw [List.getElem?_append_left hj] at hi
      exact .inr (kA i s hi)
    · rw [List.getElem?_append_right (by omega), List.getElem?_replicate] at hi
      split at hi
      · cases hi; exact .inl rfl
      · cases hi
  have ow : ∀ (i : Nat) (s : Sl), (Sl.ow (oIns p x fN) () :: g t ++ List.replicate (N.length - ((g t).length + 1)) .no)[i]? = some s → isOw (some s) = true → i = 0 := fun i s e h => by
    cases i with
    | zero => rfl
    | succ i =>
      rw [List.cons_append, List.getElem?_cons_succ] at e
      rcases getG i s e with q | ⟨_, _, q, _⟩
      · subst q; cases h
      · rw [q] at h; cases h
  have own : ∀ (i : Nat) (s : Sl) (H : Hp) (o : Option (Option V)) (q : Addr), (Sl.ow (oIns p x fN) () :: g t ++ List.replicate (N.length - ((g t).length + 1)) .no)[i]? = some s → foot H o q s → i = 0 := fun i s H o q e f => ow i s e (by
    cases z : isOw (some s) with
    | true => rfl
    | false => exact absurd f (foot_no z))
  have at0 : At dc.K ⟨F0, wo H p⟩ (.ow (oIns p x fN) () :: g t ++ List.replicate (N.length - ((g t).length + 1)) .no) F0 H (start N (.ref p :: ws)) := by
    refine ⟨same, Same.refl _, f0.trans same, fun _ _ _ => rfl, ?_, fun i s hi => ?_, fun i j s t q hn h1 h2 h3 h4 => absurd ((own i s _ _ q h1 h3).trans (own j t _ _ q h2 h4).symm) hn⟩
    · unfold start
      rw [List.length_append, List.length_append, List.length_map, List.length_replicate, List.length_replicate, List.length_cons, List.length_cons, l]
    · cases i with
      | zero =>
        cases hi
        exact ⟨p, _, rfl, wo_same, n0, hp, rfl, dx, [], rfl, Nat.le_refl _, trivial⟩
      | succ i =>
        rw [List.cons_append, List.getElem?_cons_succ] at hi
        rcases getG i s hi with q | ⟨v, q1, _, q2⟩
        · subst q; trivial
        · have hiw : i < ws.length := (List.getElem?_eq_some_iff.mp q1).1
          have e : (start N (.ref p :: ws))[i + 1]? = some (some v) := by
            unfold start
            rw [List.map_cons, List.cons_append, List.getElem?_cons_succ, List.getElem?_append_left (by rw [List.length_map]; exact hiw), List.getElem?_map, q1]
            rfl
          rw [e]
          have z := q2 ⟨F0, wo H p⟩
          cases s with
          | no => trivial
          | sh r' x' => exact z
          | rf q => exact z
          | ow2 ps r' x' =>
            obtain ⟨_, _, q3, _⟩ := kA i _ (by
              by_cases hj : i < (g t).length
              · rw [List.getElem?_append_left hj] at hi; exact hi
              · rw [List.getElem?_append_right (by omega), List.getElem?_replicate] at hi
                split at hi
                · cases hi
                · cases hi)
            cases q3
          | ow r' x' =>
            obtain ⟨_, _, q3, _⟩ := kA i _ (by
              by_cases hj : i < (g t).length
              · rw [List.getElem?_append_left hj] at hi; exact hi
              · rw [List.getElem?_append_right (by omega), List.getElem?_replicate] at hi
                split at hi
                · cases hi
                · cases hi)
            cases q3
  refine hb ⟨F0, wo H p⟩ p t _ hX (start N (.ref p :: ws)) F0 H _ y at0 hm fun σ' F' H' f' a' => ?_
  obtain ⟨q, ho, h1, h2, h3, h4, h5⟩ := a'.sl 0 _ rfl
  obtain ⟨rfl, h5'⟩ := h5
  exact kk F' H' ho a'.toExt h3 h4 ⟨rfl, h5'⟩
theorem fi_of {d : Dc} {N : List Str} {sc : Scope} {x : Str} {n k K : Nat} {f : Addr} {fd : FuncData} {ps : List Str} {τ β : Type} {ar : Ar τ} {m : τ → Option β} {dd : Fd β} (F : FnOk d.P d.w d.K d.mg d.base CX0 k f fd ps (spI d.K x ar m dd)) (hm : d.mg x = some (.ref (He.ga d.K x))) (M : Mk d.K (He.ga d.K x) f)
    (hb : Binds d.K fd ps []) (h : k + 1 ≤ K) : Fi (d.cc N sc K) x n ar m dd :=
  ⟨k, f, fd, ps, [], [], _, h, hm, M, hb, .nil, F, fun vs H Q E _ q => by rw [List.append_nil]; exact q⟩

/-! ### isinstance -/
/-- an expression that is a class -/
def Cv (C : Cc) (e : Expr) (u : Value) : Prop := ∃ v, ClsV v u ∧ (∀ X, Is C X → PE X e (tC v)) ∧ ∀ env : Env, starEach [e] env = (false, eval e env) :: starEach [] env
section
variable {C : Cc} {B : Bs} {Γ : List Sl} {α β γ τ : Type} {e a b : Expr} {es : List Expr} {pos : Pos}
theorem cv_ty {x : Str} {n : String} (hm : C.mg x = none) (hv : bootBuiltins x = some (.type n)) (hg : C.sc.names.lookup x = some .globalImplicit := by rfl) (hn : x ≠ "__name__" := by decide) (hd : (x == ("__debug__" : Str)) = false := by decide) : Cv C (.Name x pos) (.type n) :=
  ⟨.ty n, .ty n, fun X hX => pe_bltn (gl_of hX hg) (by rw [hX.mg]; exact hm) hv rfl hn hd, fun _ => rfl⟩
theorem cv_own {x : Str} {A : Addr} (hm : C.mg x = some (.ref A)) (hg : C.sc.names.lookup x = some .globalImplicit := by rfl) (hd : (x == ("__debug__" : Str)) = false := by decide) : Cv C (.Name x pos) (.ref A) :=
  ⟨.ref A, .own A, fun X hX => pe_glob (gl_of hX hg) (by rw [hX.mg]; exact hm) rfl hd, fun _ => rfl⟩
/-- the type of what is told -/
def TyM (K : Fg) (M : Vp α) (t : α → Value) : Prop := ∀ F H v x, Same F H → M.p K F H v x → TyX K H v (t x)
theorem ty_tup {K : Fg} {H : Hp} {p : Addr} {vs : List V} (h : SqT K H p vs) : TyX K H (.ref p) (.type "tuple") := by
  rcases h with (h | ⟨o, h⟩) | ⟨o, its, n, h1, h2, _⟩
  · exact .base (.tup h)
  · exact .fTuple h
  · exact .kTuple h1 h2
theorem tyI {K : Fg} : TyM K (vS rI) fun _ => .type "int" := fun F H v x _ h => by rw [show v = V.int x from h]; exact .base (.int x)
theorem tyB {K : Fg} : TyM K (vS rB) fun _ => .type "bool" := fun F H v x _ h => by rw [show v = V.bl x from h]; exact .base (.bl x)
theorem tyS {K : Fg} : TyM K (vS rS) fun _ => .type "str" := fun F H v x _ h => by rw [show v = V.str x from h]; exact .base (.str x)
theorem tyN {K : Fg} : TyM K (vS rN) fun _ => .type "NoneType" := fun F H v x _ h => by rw [show v = V.non from h]; exact .base .non
theorem tyP {K : Fg} {r : R α} {q : R β} : TyM K (vS (rP r q)) fun _ => .type "tuple" := fun F H v x f ⟨p, _, _, h1, h2, _⟩ => by subst h1; exact ty_tup (sqT_up f h2)
theorem tyP3 {K : Fg} {r : R α} {q : R β} {s : R γ} : TyM K (vS (rP3 r q s)) fun _ => .type "tuple" := fun F H v x f ⟨p, _, _, _, h1, h2, _⟩ => by subst h1; exact ty_tup (sqT_up f h2)
theorem tyP4 {δ : Type} {K : Fg} {r : R α} {q : R β} {s : R γ} {t : R δ} : TyM K (vS (rP4 r q s t)) fun _ => .type "tuple" := fun F H v x f ⟨p, _, _, _, _, h1, h2, _⟩ => by subst h1; exact ty_tup (sqT_up f h2)
theorem tyT {K : Fg} {r : R α} : TyM K (vS (rT r)) fun _ => .type "tuple" := fun F H v x f ⟨p, _, h1, h2, _⟩ => by subst h1; exact ty_tup (sqT_up f h2)
theorem tyL {K : Fg} {r : R α} : TyM K (vS (rL r)) fun _ => .type "list" := fun F H v x f ⟨p, _, h1, h2, _⟩ => by subst h1; exact .base (.lst (f _ _ h2))
theorem tyOL {K : Fg} {r : R α} : TyM K (vL r) fun _ => .type "list" := fun F H v x f ⟨p, _, h1, h2, _⟩ => by subst h1; exact .base (.lst h2)
theorem tyO {K : Fg} {r : R α} {t : α → Value} (h : TyM K (vS r) t) : TyM K (vS (rO r)) fun x => match x with | none => .type "NoneType" | some y => t y := fun F H v x f q => by
  cases x with
  | none => rw [show v = V.non from q]; exact .base .non
  | some y => exact h F H v y f q.2
/-- what an own class must have, to be asked of -/
structure ClsQ (K : Fg) (A : Addr) : Prop where
  cl : Cls K A
  ha : PySem.W.findIn K (.ref A) "__class__" = some (some (.builtin "object.__class__"))
  hn : PySem.W.specialIn K (.builtin "object.__class__") "__get__" = some (some (.builtin "getset_descriptor.__get__"))
  htk : PySem.W.takesIn K (.builtin "object.__class__") = some true
  hm : PySem.W.mroIn K A (.type "object") = some true
theorem tyIns {K : Fg} {x : Str} {d : Fd τ} (c : ClsQ K (He.ga K x)) : TyM K (vS (rIns x d)) fun _ => .ref (He.ga K x) := fun F H v y f ⟨p, dx, fs, h1, h2, _⟩ => by
  subst h1; exact .base (.ins (f _ _ h2) c.cl c.ha c.hn c.htk c.hm)
theorem ex_isi {M : Vp α} {t : α → Value} {u : Value} {m : Option α} {g : α → Bool} {p : Pos} {ce : Expr} (h : Ex C B Γ e M m) (cv : Cv C ce u) (ty : TyM C.K M t) (hk : ∀ x, PySem.W.kitOne C.K (t x) u = some (g x)) (hm : C.mg ("isinstance" : Str) = none)
    (hg : C.sc.names.lookup ("isinstance" : Str) = some .globalImplicit := by rfl) (hst : StE e [ce] := by exact ⟨fun _ => rfl, fun _ _ => rfl⟩) : Ex C B Γ (.Call (.Name ("isinstance" : Str) p) [e, ce] [] pos) (vS rB) (m.map g) := by
  intro X hX σ F H Q z at' hmm k
  cases m with
  | none => cases hmm
  | some w =>
    cases hmm
    obtain ⟨v, h1, h2, h3⟩ := cv
    refine tE_of (pe_callB call_isi (gl_of hX hg) (by rw [hX.mg]; exact hm) (by decide +kernel) (pa_cons pe_self (pa_cons (h2 X hX) pa_nil (h3 X.env)) (hst.1 X.env)) (by decide) (by decide) (hst.1 X.env) (hst.2 _ X.env)) (h X hX σ F H _ w at' rfl fun x F' H' x1 q => ?_)
    exact ⟨x, v, t w, u, g w, rfl, h1, by rw [hX.K]; exact ty _ _ _ _ x1.fh q, by rw [hX.K]; exact hk w, k _ F' H' x1 rfl⟩
/-- isinstance(e, (c1, c2)) -/
theorem ex_isi2 {M : Vp α} {t : α → Value} {u1 u2 : Value} {m : Option α} {g : α → Bool} {p p2 : Pos} {k2 : _} {c1 c2 : Expr} (h : Ex C B Γ e M m) (v1 : Cv C c1 u1) (v2 : Cv C c2 u2) (ty : TyM C.K M t) (hk : ∀ x, PySem.W.kitAny C.K (t x) [u1, u2] = some (g x)) (hm : C.mg ("isinstance" : Str) = none)
    (hg : C.sc.names.lookup ("isinstance" : Str) = some .globalImplicit := by rfl) (hst : StE e [.Tuple [c1, c2] k2 p2] := by exact ⟨fun _ => rfl, fun _ _ => rfl⟩) (hst2 : ∀ env : Env, starEach [c1, c2] env = (false, eval c1 env) :: starEach [c2] env := by intro _; rfl) :
    Ex C B Γ (.Call (.Name ("isinstance" : Str) p) [e, .Tuple [c1, c2] k2 p2] [] pos) (vS rB) (m.map g) := by
  intro X hX σ F H Q z at' hmm k
  cases m with
  | none => cases hmm
  | some w =>
    cases hmm
    obtain ⟨w1, a1, a2, a3⟩ := v1
    obtain ⟨w2, b1, b2, b3⟩ := v2
    refine tE_of (pe_callB call_isiT (gl_of hX hg) (by rw [hX.mg]; exact hm) (by decide +kernel) (pa_cons pe_self (pa_cons (pe_tup (pa_cons (a2 X hX) (pa_cons (b2 X hX) pa_nil (b3 X.env)) (hst2 X.env))) pa_nil) (hst.1 X.env)) (by decide) (by decide) (hst.1 X.env) (hst.2 _ X.env)) (h X hX σ F H _ w at' rfl fun x F' H' x1 qx => ?_)
    refine ⟨by show 2 ≤ sizeLine; decide, fun q nq => ?_⟩
    have x2 := Ext.new (o := .tup [w1, w2]) x1.fh nq
    exact ⟨x, q, [w1, w2], t w, [u1, u2], g w, rfl, upd_same, .cons a1 (.cons b1 .nil), by rw [hX.K]; exact ty _ _ _ _ x2.fh (M.up x2 qx), by rw [hX.K]; exact hk w, k _ _ _ (x1.trans x2) rfl⟩
end
end L2.T
set_option Elab.async false
set_option linter.all false
set_option maxRecDepth 100000
/-! Further rules: constants, truth of lists, dicts as ordered sets of ints, insert, unpacking of lists. -/
namespace L2.T
open PySem PySem.Spec PyProof.Rows
theorem b_len : bootBuiltins ("len" : Str) = some (.builtin "len") := by decide +kernel
theorem b_abs : bootBuiltins ("abs" : Str) = some (.builtin "abs") := by decide +kernel
theorem b_int : bootBuiltins ("int" : Str) = some (.type "int") := by decide +kernel
theorem b_bool : bootBuiltins ("bool" : Str) = some (.type "bool") := by decide +kernel
theorem b_str : bootBuiltins ("str" : Str) = some (.type "str") := by decide +kernel
theorem b_list : bootBuiltins ("list" : Str) = some (.type "list") := by decide +kernel
theorem b_tuple : bootBuiltins ("tuple" : Str) = some (.type "tuple") := by decide +kernel
theorem b_min : bootBuiltins ("min" : Str) = some (.builtin "min") := by decide +kernel
theorem b_max : bootBuiltins ("max" : Str) = some (.builtin "max") := by decide +kernel
theorem b_sum : bootBuiltins ("sum" : Str) = some (.builtin "sum") := by decide +kernel
theorem b_any : bootBuiltins ("any" : Str) = some (.builtin "any") := by decide +kernel
theorem b_all : bootBuiltins ("all" : Str) = some (.builtin "all") := by decide +kernel
theorem b_sorted : bootBuiltins ("sorted" : Str) = some (.builtin "sorted") := by decide +kernel
theorem dfl1_1 {τ : Type} {v w : V} {vs : List V} {p : Prop} (h : vs.length = 1) (q : p) : p := q
section
variable {C : Cc} {B : Bs} {Γ : List Sl} {O : Type} {P : Po O} {α β γ ρ S L : Type} {e a b tg : Expr} {es : List Expr} {pos : Pos} {st : Stmt} {rest sts : List Stmt} {res : Rs ρ}
theorem ex_globC {r : R α} {c : α} {n : Str} (h : ∃ u v, C.mg n = some u ∧ RelV v u ∧ ∀ F, r.rep C.K F v c) (hg : C.sc.names.lookup n = some .globalImplicit) (hd : (n == ("__debug__" : Str)) = false := by decide) : Ex C B Γ (.Name n pos) (vS r) (some c) := by
  obtain ⟨u, v, h1, h2, h3⟩ := h
  exact ex_glob hg h1 h2 h3 hd
theorem ex_qP0 {r : R α} {x : α × α} (h : Ex C B Γ e (vS (rP r r)) (some x)) : Ex C B Γ e (vQ r) (some [x.1, x.2]) := ex_qP h
theorem ii_pair0 {r : R α} {x : α × α} (h : Ex C B Γ e (vS (rP r r)) (some x)) : Ii C B Γ tg e true r (some [x.1, x.2]) := ii_pair h
theorem ex_not0 {c : Bool} (h : Ex C B Γ e (vS rB) (some c)) : Ex C B Γ (.UnaryOp .Not e pos) (vS rB) (some (!c)) := ex_not h
/-- if xs: -/
theorem tt_tru {r : R α} {m : Option (List α)} (h : Ex C B Γ e (vL r) m) (he : ∀ (env : Env) whole, isTrue e env whole = (do let v ← whole; standAt e.pos; holding [v] (truthy v)) := by intro _ _; rfl) : Tt C B Γ e (m.map fun x => !x.isEmpty) := by
  intro X hX σ F H Q z at' hm k
  cases m with
  | none => cases hm
  | some x =>
    cases hm
    refine tT_of (pt_truth pe_self (he X.env)) (h X hX σ F H _ x at' rfl fun v F' H' x1 ⟨p, vs, e1, e2, e3, e4⟩ => ?_)
    subst e1
    have el : vs.isEmpty = x.isEmpty := by
      have := e4.len
      cases vs <;> cases x <;> simp at this ⊢
    exact ⟨!x.isEmpty, .inl ⟨vs, .inl (.inl e2), by rw [el]⟩, k F' H' x1⟩
theorem tt_tru0 {r : R α} {x : List α} (h : Ex C B Γ e (vL r) (some x)) (he : ∀ (env : Env) whole, isTrue e env whole = (do let v ← whole; standAt e.pos; holding [v] (truthy v)) := by intro _ _; rfl) : Tt C B Γ e (some (!x.isEmpty)) := tt_tru (m := some x) h he
/-- t[2:] of a tuple of four -/
theorem ex_sl42 {r : R α} {q : R β} {s : R γ} {m : α × β × γ × Option γ} {p2 p3 : Pos} {j : _} (nn : NN s) (h1 : Ex C B Γ a (vS (rP4 r q s (rO s))) (some m)) :
    Ex C B Γ (.Subscript a (.Slice (some (.Constant (.int 2) j p3)) none none p2) pos) (vS (rT (rO s))) (some [some m.2.2.1, m.2.2.2]) := by
  intro X hX σ F H Q z at' hm k
  cases hm
  refine tE_of (pe_slice sl_tupA pe_self (po_some pe_int) po_none) (h1 X hX σ F H _ m at' rfl fun u F1 H1 x1 q1 => ?_)
  obtain ⟨p, va, vb, vc, vd, e1, e2, e3, e4, e5, e6⟩ := q1
  refine ⟨2, rfl, p, [va, vb, vc, vd], e1, by rw [hX.K]; exact sqT_up x1.fh e2, fun hf => ?_, fun _ q nq => ?_⟩
  · have h0 : HT.sIx 4 0 (some 2) = 0 := hf.1
    exact absurd h0 (by decide)
  · have x4 := Ext.new (o := .tup (cutV [va, vb, vc, vd] (some 2) none)) x1.fh nq
    have ev : cutV [va, vb, vc, vd] (some 2) none = [vc, vd] := rfl
    rw [ev] at x4 ⊢
    exact k _ _ _ (x1.trans x4) ⟨q, _, rfl, .inl (.inl upd_same), (by show 2 ≤ sizeLine; decide), ⟨nn _ _ _ _ e5, s.up x4.f e5⟩, (rO s).up x4.f e6, trivial⟩

/-- the length of a written list -/
def Ln {α : Type} (n : Nat) (m : Option (List α)) : Prop := ∀ x, m = some x → x.length = n
theorem ln_nil : Ln 0 (some ([] : List α)) := fun x h => by cases h; rfl
theorem ln_cons {n : Nat} {a : Option α} {m : Option (List α)} (h : Ln n m) : Ln (n + 1) (b2 a m fun x y => some (x :: y)) := fun z e => by
  obtain ⟨x, y, _, h2, h3⟩ := b2_some e
  cases h3
  rw [List.length_cons, h y h2]
theorem ln_le {n : Nat} {m : Option (List α)} (h : Ln n m) (hn : Nat.ble n 1000 = true) : ∀ x, m = some x → x.length ≤ 1000 := fun x e => by
  rw [h x e]; exact Nat.le_of_ble_eq_true hn
/-- a, b = a list of two -/
def unL2 {α : Type} : List α → Option (α × α)
  | [a, b] => some (a, b)
  | _ => none
theorem unL2_some {xs : List α} {t : α × α} (h : unL2 xs = some t) : xs = [t.1, t.2] := by
  match xs, h with
  | [a, b], h => cases h; rfl
  | [], h => cases h
  | [_], h => cases h
  | _ :: _ :: _ :: _, h => cases h
theorem sx_unpL2 {t1 t2 : Expr} {kk : _} {pos2 : Pos} {r : R α} {p1 p2 : List Sl → α → List Sl} {ix iy : List Nat} {mx : Option (List α)} {m : α × α → Option O} (g1 : Gt C t1 r p1 ix) (g2 : Gt C t2 r p2 iy) (h : Ex C B Γ e (vL r) mx) (k : ∀ x, Sx C B (p2 (p1 Γ x.1) x.2) rest (m x) P)
    (s1 : ∀ env : Env, (assignEach [t1, t2] env).map (·.2) = assign t1 env :: (assignEach [t2] env).map (·.2) := by intro _; rfl) (s2 : ∀ env : Env, (assignEach [t2] env).map (·.2) = assign t2 env :: (assignEach [] env).map (·.2) := by intro _; rfl)
    (s3 : ∀ env : Env, (assignEach [t1, t2] env).length = 2 := by intro _; rfl) (s4 : ∀ env : Env, (assignEach [t1, t2] env).findIdx? (·.1) = none := by intro _; rfl)
    (hs : ∀ (l : Nat) (env : Env), swapsWithSole [.Tuple [t1, t2] kk pos2] e l env = pure false := by intro _ _; rfl) (hw : ∀ (env : Env), swappedStores [.Tuple [t1, t2] kk pos2] e env = pure none := by intro _; rfl) (h1 : ∀ env : Env, (assignEach [.Tuple [t1, t2] kk pos2] env).map (·.2) = [assign (.Tuple [t1, t2] kk pos2) env] := by intro _; rfl) :
    Sx C B Γ (.Assign [.Tuple [t1, t2] kk pos2] e pos :: rest) ((mx.bind unL2).bind m) P := by
  intro X hX σ F H D o a hm hp
  obtain ⟨x, hx0, hz⟩ := bd_some hm
  obtain ⟨xs, hxs, hu⟩ := bd_some hx0
  have hu' := unL2_some hu
  subst hu'
  obtain ⟨g1', e1, k1⟩ := g1 X hX
  obtain ⟨g2', e2, k2⟩ := g2 X hX
  refine tS_of (pss_cons (ps_asg pe_self (pg_unl hX.calm (pgs_cons e1 (pgs_cons e2 pgs_nil (s2 X.env)) (s1 X.env)) (s3 X.env) (s4 X.env)) (hs _ _) (hw _) (h1 _)) pss_self) (h X hX σ F H _ _ a hxs fun v F' H' x1 ⟨p, vs, q1, q2, q3, q4⟩ => ?_)
  match vs, q4 with
  | [va, vb], q4 =>
    refine ⟨p, [va, vb], q1, .inl (.inl q2), rfl, va, [vb], rfl, k1 B Γ F' H' σ va x.1 _ (a.ext x1) q4.1 fun σ1 a1 _ => ?_⟩
    exact ⟨vb, [], rfl, k2 B _ F' H' σ1 vb x.2 _ a1 q4.2.1 fun σ2 a2 _ => ⟨rfl, k x X hX σ2 F' H' D o a2 hz (P.mono x1.f hp)⟩⟩
  | [], q4 => exact q4.elim
  | [_], q4 => exact q4.2.elim
  | _ :: _ :: _ :: _, q4 => exact q4.2.2.elim

/-! ### a dict as an ordered set of ints -/
def keyV (xs : List Int) : List (Key × V) := xs.map fun k => (Sum.inl k, V.bl true)
def oK : Ob (List Int) := ⟨fun _ _ _ o xs => o = .dK (keyV xs) ∧ xs.length ≤ sizeLine, fun _ h => h⟩
def keyG (xs : List Int) (k : Int) : Option (List Int) := if xs.length < sizeLine then some (if k ∈ xs then xs else xs ++ [k]) else none
theorem ex_dic0 : ExF C B Γ (.Dict [] [] pos) oK (some []) := by
  intro X hX σ F H Q z at' hm k
  cases hm
  refine tE_of pe_dnewK fun p hp => ?_
  exact k p _ _ _ (Ext.own at'.fh hp) hp (at'.fh.free hp) upd_same ⟨rfl, Nat.zero_le _⟩
theorem putK_key (xs : List Int) (k : Int) : putK (keyV xs) (Sum.inl k : Key) (V.bl true) = keyV (if k ∈ xs then xs else xs ++ [k]) := by
  unfold putK keyV
  rw [List.any_map]
  by_cases h : k ∈ xs
  · have h1 : (xs.any ((fun kv : Key × V => decide (kv.1 = Sum.inl k)) ∘ fun k => (Sum.inl k, V.bl true))) = true := List.any_eq_true.mpr ⟨k, h, by simp⟩
    rw [if_pos h1, if_pos h, List.map_map]
    apply List.map_congr_left
    intro a _
    simp only [Function.comp]
    split
    · rfl
    · rfl
  · have h1 : ¬ (xs.any ((fun kv : Key × V => decide (kv.1 = Sum.inl k)) ∘ fun k => (Sum.inl k, V.bl true))) = true := fun q => by
      obtain ⟨x, h2, h3⟩ := List.any_eq_true.mp q
      have : (Sum.inl x : Key) = Sum.inl k := by simpa using h3
      cases this
      exact h h2
    rw [if_neg h1, if_neg h, List.map_append]
    rfl
/-- known[e] = True -/
theorem sx_key (i : Nat) {n : Str} {p2 p3 p4 : Pos} {j : _} {xs : List Int} {mx : Option Int} {m : List Int → Option O} (h : Ex C B Γ e (vS rI) mx) (k : ∀ x, Sx C B (Γ.set i (.ow oK x)) rest (m x) P)
    (hi : Γ[i]? = some (.ow oK xs) := by rfl) (hN : C.N[i]? = some n := by rfl) (hv : Vis C.sc n := by first | exact Or.inl rfl | exact Or.inr (Or.inl rfl) | exact Or.inr (Or.inr rfl)) (hd : (n == ("__debug__" : Str)) = false := by decide) (hcd : (n == ("__classdict__" : Str)) = false := by decide) :
    Sx C B Γ (.Assign [.Subscript (.Name n p2) e p3] (.Constant (.bool true) j p4) pos :: rest) ((mx.bind fun k => keyG xs k).bind m) P := by
  intro X hX σ F H D o a hm hp
  obtain ⟨z, hz0, hz⟩ := bd_some hm
  obtain ⟨y, hy, hg⟩ := bd_some hz0
  unfold keyG at hg
  split at hg
  · rename_i hlt
    cases hg
    obtain ⟨p, ho, h1, h2, h3, h4, rfl, h5⟩ := a.sl i _ hi
    refine tS_of (pss_cons (ps_dput (hu_of hX.room) (pe_var (by rw [hX.N]; exact hN) (vis_of hX hv) hd hcd) pe_self pe_bl rfl) pss_self) ⟨.ref p, h1, h X hX σ F H _ y a hy fun w F1 H1 x1 q1 => ?_⟩
    subst q1
    refine ⟨p, _, rfl, DPut.k (k := Sum.inl y) (x1.h _ _ h4) (by unfold keyV; rw [List.length_map]; exact hlt), ?_⟩
    rw [putK_key]
    refine k _ X hX σ F1 _ D o ((a.ext x1).chg hi h1 ⟨rfl, ?_⟩) hz (P.mono x1.f hp)
    split
    · exact h5
    · rw [List.length_append]; exact hlt
  · cases hg
/-- [x for x in known] -/
theorem ex_keys (i j : Nat) {n x : Str} {p1 p2 p3 : Pos} {scope : Scope} {xs : List Int} (own : List (Str × Nat)) (ok : blkC C.N C.sc scope own = true) (hi : Γ[i]? = some (.ow oK xs) := by rfl) (hN : C.N[i]? = some n := by rfl) (hv : Vis C.sc n := by first | exact Or.inl rfl | exact Or.inr (Or.inl rfl) | exact Or.inr (Or.inr rfl))
    (hNx : C.N[j]? = some x := by rfl) (hl : (C.blk scope).sc.names.lookup x = some .local := by rfl) (hx : j ∈ own.map (·.2) := by decide) (hG : Nat.ble (j + 1) Γ.length = true := by rfl) (hd : (n == ("__debug__" : Str)) = false := by decide) (hcd : (n == ("__classdict__" : Str)) = false := by decide) (hdx : (x == ("__debug__" : Str)) = false := by decide) (hcdx : (x == ("__classdict__" : Str)) = false := by decide) :
    ExF C B Γ (.ListComp (.Name x p1) [⟨.Name x p2, .Name n p3, [], 0⟩] scope pos) (oL rI) (some xs) := by
  intro X hX σ F H Q z at' hm k
  cases hm
  obtain ⟨p, ho, h1, h2, h3, h4, rfl, h5⟩ := at'.sl i _ hi
  have nd : X.N.Nodup := by rw [hX.N]; exact hX.nd
  have hjl : j < σ.length := by
    rw [at'.len]
    exact Nat.le_of_ble_eq_true hG
  refine tE_of (pe_lock (pe_lc (g := gName j) (tt := tYes) (te := tVar j) (own := own) hX.calm nd (pi_keys (pe_var (by rw [hX.N]; exact hN) (vis_of hX hv) hd hcd)) (by rw [hX.N, hX.sc]; exact blkOk_by ok) (fun s H D cl fp => ?_) (fun s H D cl fp => pts_nil) (fun s H D cl fp => ?_)))
    ⟨p, .dK (keyV xs), h4, trivial, fun od => ⟨.ref p, h1, p, od, rfl, .inl ⟨keyV xs, upd_same, fun D hD => ?_⟩⟩⟩
  · have hY := hX.blk s H scope cl D fp
    exact pg_name nd (by show X.N[j]? = _; rw [hX.N]; exact hNx) (.inl (by rw [hY.sc]; exact hl)) (.inr (by rw [hY.sc]; exact hl))
  · have hY := hX.blk s H scope cl D fp
    exact pe_var (by show X.N[j]? = _; rw [hX.N]; exact hNx) (.inl (by rw [hY.sc]; exact hl)) hdx hcdx
  · have npD : p ≠ D := fun e => by subst e; rw [upd_same] at hD; cases hD
    have hD0 : H D = none := by rw [upd_ne (Ne.symm npD)] at hD; exact hD
    have len : (keyV xs).length = xs.length := List.length_map ..
    refine lc_it (walk_keys (d := p) (o := od) (kvs := keyV xs)) (fun t H2 => H2 = upd (upd H p (.frz od (.dK (keyV xs)))) D (.lst ((xs.take t).map V.int))) (by rw [List.take_zero]; rfl) (fun t H2 _ e => by subst e; rw [upd_ne npD, upd_same]) ?_ ?_
    · rintro t v H2 H3 hlt e ⟨e3, kk, vv, hk, hv'⟩
      subst e; subst e3
      rw [len] at hlt
      have hxt : xs[t]? = some xs[t] := List.getElem?_eq_getElem hlt
      have hkk : kk = Sum.inl xs[t] := by
        unfold keyV at hk
        rw [List.getElem?_map, hxt] at hk
        exact (congrArg Prod.fst (Option.some.inj hk)).symm
      subst hkk
      subst hv'
      refine ⟨wipe_off (ix := [j]) (fun q hq => (show q = j by simpa using hq) ▸ hx) ⟨List.length_set .., fun q hq => by rw [List.getElem?_set_ne (fun e => hq (by simp [e]))]⟩, ?_⟩
      simp only [tYes, if_true]
      refine ⟨_, List.getElem?_set_self (by rw [wipe_length]; exact hjl), _, upd_same, ?_, ?_⟩
      · rw [List.length_map, List.length_take]; omega
      · have e1 : (xs.take (t + 1)).map V.int = (xs.take t).map V.int ++ [kV (Sum.inl xs[t])] := by
          rw [List.take_succ, hxt, List.map_append]; rfl
        show upd _ D _ = upd _ D _
        rw [e1, upd_upd]
    · rintro H2 e
      subst e
      rw [len, List.take_length]
      refine ⟨by rw [upd_ne npD, upd_same], ?_⟩
      have eh : upd (upd (upd H p (.frz od (.dK (keyV xs)))) D (.lst (xs.map V.int))) p (.dK (keyV xs)) = upd H D (.lst (xs.map V.int)) := by
        funext b
        by_cases hb : b = p
        · subst hb; rw [upd_same, upd_ne npD, h4]
        · rw [upd_ne hb]
          by_cases hb2 : b = D
          · subst hb2; rw [upd_same, upd_same]
          · rw [upd_ne hb2, upd_ne hb, upd_ne hb2]
      rw [eh]
      exact k D _ _ _ (Ext.own at'.fh hD0) hD0 (at'.fh.free hD0) upd_same ⟨_, rfl, by rw [List.length_map]; exact h5, All2.ofInts xs⟩

/-! ### insert -/
def insG (xs : List α) (j : Int) (y : α) : Option (List α) := if xs.length < sizeLine ∧ 0 ≤ j ∧ j < 2 ^ 62 then some (xs.take j.toNat ++ [y] ++ xs.drop j.toNat) else none
theorem sx_ins (i : Nat) {n : Str} {p2 apos cpos : Pos} {r : R α} {xs : List α} {mi : Option Int} {mx : Option α} {m : List α → Option O} (hj : Ex C B Γ a (vS rI) mi) (h : Ex C B Γ e (vS r) mx) (k : ∀ x, Sx C B (Γ.set i (.ow (oL r) x)) rest (m x) P)
    (hi : Γ[i]? = some (.ow (oL r) xs) := by rfl) (hN : C.N[i]? = some n := by rfl) (hv : Vis C.sc n := by first | exact Or.inl rfl | exact Or.inr (Or.inl rfl) | exact Or.inr (Or.inr rfl)) (hd : (n == ("__debug__" : Str)) = false := by decide) (hcd : (n == ("__classdict__" : Str)) = false := by decide)
    (hst : ∀ env : Env, starEach [a, e] env = (false, eval a env) :: starEach [e] env := by intro _; rfl) (hst2 : ∀ env : Env, starEach [e] env = (false, eval e env) :: starEach [] env := by intro _; rfl)
    (hb : ∀ env : Env, attributeBase (.Name n p2) ("insert" : Str) env (eval (.Name n p2) env) = eval (.Name n p2) env := by intro _; rfl)
    (hfew : ∀ env : Env, ((backTo cpos (starEach [a, e] env)).all (fun x => !x.1) && (backToKw cpos (keywordEach [] env)).all (fun x => x.1.isSome) && decide (([a, e] : List Expr).length + ([] : List Keyword).length + (if ([] : List Keyword).isEmpty then 0 else 1) < 30)) = true := by intro _; rfl)
    (hline : (apos.endLine == cpos.line) = true := by rfl) (hpl : ∀ env : Env, (backTo cpos (starEach [e] env)).any (·.1) = false := by intro _; rfl) :
    Sx C B Γ (.Expr (.Call (.Attribute (.Name n p2) ("insert" : Str) apos) [a, e] [] cpos) pos :: rest) ((b2 mi mx fun j y => insG xs j y).bind m) P := by
  intro X hX σ F H D o a' hm hp
  obtain ⟨z, hz0, hz⟩ := bd_some hm
  obtain ⟨j, y, hjj, hy, hg⟩ := b2_some hz0
  unfold insG at hg
  split at hg
  · rename_i hlt
    cases hg
    obtain ⟨p, ho, h1, h2, h3, h4, vs, rfl, h5, h6⟩ := a'.sl i _ hi
    refine tS_of (pss_cons (ps_expr (pe_bm PySem.F.plainAttrs_list PySem.F.slot_list_insert PySem.F.type_list_insert mt_insert (pe_var (by rw [hX.N]; exact hN) (vis_of hX hv) hd hcd) (pa_cons pe_self (pa_cons pe_self pa_nil (hst2 X.env)) (hst X.env)) (hb X.env) (hfew X.env) hline (hst X.env) (hpl X.env))) pss_self)
      ⟨.ref p, h1, isList_tyV h4, hj X hX σ F H _ j a' hjj fun u F0 H0 x0 q0 => ?_⟩
    refine h X hX σ F0 H0 _ y (a'.ext x0) hy fun w F1 H1 x1 q1 => ?_
    subst q0
    have x01 := x0.trans x1
    refine ⟨p, vs, j, w, rfl, rfl, x01.h _ _ h4, by rw [h6.len]; exact hlt.1, hlt.2.1, by omega, ?_⟩
    have a1 := a'.ext x01
    have h6' := All2.imp (fun _ _ z => r.up x01.f z) h6
    refine k _ X hX σ F1 _ D o (a1.chg hi h1 ⟨_, rfl, ?_, All2.app (All2.app (All2.take _ h6') (All2.one q1)) (All2.drop _ h6')⟩) hz (P.mono x01.f hp)
    have := h6.len
    simp only [List.length_append, List.length_take, List.length_drop, List.length_cons, List.length_nil]
    omega
  · cases hg

/-! ### comprehensions stored, in other forms -/
theorem sx_lcE (i : Nat) {n : Str} {p2 pos2 : Pos} {elt iter : Expr} {ifs : List Expr} {scope : Scope} {r : R α} {q : R β} {put : List Sl → α → List Sl} {ix : List Nat} {sd : Bool} {xs : List α} {mx : Option (List α)} {z : List β} {c : α → Option Bool} {f : α → Option β} {m : List β → Option O}
    (own : List (Str × Nat)) (ok : blkC C.N C.sc scope own = true) (hi : Ii C B Γ tg iter sd r mx) (hg : Gt (C.blk scope) tg r put ix) (ht : ∀ x, Ts (C.blk scope) B (put (wipeS Γ (own.map (·.2))) x) ifs (c x)) (he : ∀ x, Ex (C.blk scope) B (put (wipeS Γ (own.map (·.2))) x) elt (vS q) (f x))
    (k : ∀ x, Sx C B (Γ.set i (.sh (rL q) x)) rest (m x) P) (hq : lcM c f xs = some z) (hmx : mx = some xs := by rfl)
    (hN : C.N[i]? = some n := by rfl) (hl : C.sc.names.lookup n = some .local := by rfl) (hk : C.sc.kind = .function := by rfl) (hln : (p2.line == pos2.line) = true := by rfl) (ha : (scope.names.any fun (m, k) => m == n && (k == .local || k == .cell)) = false := by decide)
    (hx : ∀ k ∈ ix, k ∈ own.map (·.2) := by decide) (hs : ∀ (env : Env) x, foldedSetIterable iter env x = pure x := by intro _ _; rfl) :
    Sx C B Γ (.Assign [.Name n p2] (.ListComp elt [⟨tg, iter, ifs, 0⟩] scope pos2) pos :: rest) ((some z).bind m) P := by
  subst hmx
  have h := sx_lc (pos := pos) (p2 := p2) (pos2 := pos2) i own ok hi hg ht he k hN hl hk hln ha hx hs
  have e : ((some xs).bind fun xs => lcM c f xs) = some z := hq
  rw [e] at h
  exact h
theorem sx_lcEF (i : Nat) {n : Str} {p2 pos2 : Pos} {elt iter : Expr} {ifs : List Expr} {scope : Scope} {r : R α} {q : R β} {put : List Sl → α → List Sl} {ix : List Nat} {sd : Bool} {xs : List α} {mx : Option (List α)} {z : List β} {c : α → Option Bool} {f : α → Option β} {m : List β → Option O}
    (own : List (Str × Nat)) (ok : blkC C.N C.sc scope own = true) (hi : Ii C B Γ tg iter sd r mx) (hg : Gt (C.blk scope) tg r put ix) (ht : ∀ x, Ts (C.blk scope) B (put (wipeS Γ (own.map (·.2))) x) ifs (c x)) (he : ∀ x, Ex (C.blk scope) B (put (wipeS Γ (own.map (·.2))) x) elt (vS q) (f x))
    (k : ∀ x, Sx C B (Γ.set i (.ow (oL q) x)) rest (m x) P) (hq : lcM c f xs = some z) (hmx : mx = some xs := by rfl)
    (hN : C.N[i]? = some n := by rfl) (hl : C.sc.names.lookup n = some .local := by rfl) (hk : C.sc.kind = .function := by rfl) (hln : (p2.line == pos2.line) = true := by rfl) (ha : (scope.names.any fun (m, k) => m == n && (k == .local || k == .cell)) = false := by decide)
    (hx : ∀ k ∈ ix, k ∈ own.map (·.2) := by decide) (hs : ∀ (env : Env) x, foldedSetIterable iter env x = pure x := by intro _ _; rfl) :
    Sx C B Γ (.Assign [.Name n p2] (.ListComp elt [⟨tg, iter, ifs, 0⟩] scope pos2) pos :: rest) ((some z).bind m) P := by
  subst hmx
  have h := sx_lcF (pos := pos) (p2 := p2) (pos2 := pos2) i own ok hi hg ht he k hN hl hk hln ha hx hs
  have e : ((some xs).bind fun xs => lcM c f xs) = some z := hq
  rw [e] at h
  exact h
/-- into a name that a comprehension sees -/
theorem swc {elt : Expr} {gs : List Comprehension} {scope : Scope} {p pos : Pos} {n : Str} {l : Nat} {env : Env} (h : env.scope.names.lookup n = some .cell) : swapsWith (.ListComp elt gs scope p) (some (.Name n pos)) l env = pure false := by
  have ky : env.kindOf n = some .cell := h
  unfold swapsWith
  simp only [ky]
  have e : (some NameKind.cell == some NameKind.local) = false := by decide
  simp only [e, Bool.and_false, Bool.false_and]
theorem sx_bindC (i : Nat) {n : Str} {p2 p3 : Pos} {elt : Expr} {gs : List Comprehension} {scope : Scope} {r : R α} {mx : Option α} {m : α → Option O} (h : Ex C B Γ (.ListComp elt gs scope p3) (vS r) mx) (k : ∀ x, Sx C B (Γ.set i (.sh r x)) rest (m x) P)
    (hN : C.N[i]? = some n := by rfl) (hl : C.sc.names.lookup n = some .cell := by rfl) (hf : C.fnx n = true := by rfl) : Sx C B Γ (.Assign [.Name n p2] (.ListComp elt gs scope p3) pos :: rest) (mx.bind m) P := by
  intro X hX σ F H D o a hm hp
  obtain ⟨x, hx, hz⟩ := bd_some hm
  have hlX : X.env.scope.names.lookup n = some .cell := by rw [hX.sc]; exact hl
  refine tS_of (pss_cons (ps_set (by rw [hX.N]; exact hX.nd) (by rw [hX.N]; exact hN) (.inr hlX) pe_self (swc hlX) (.inl (by rw [hX.fnx]; exact hf))) pss_self) (h X hX σ F H _ x a hx fun v F' H' x1 q => ?_)
  exact k x X hX _ F' H' D o ((a.ext x1).put q) hz (P.mono x1.f hp)
theorem sx_bindFC (i : Nat) {n : Str} {p2 p3 : Pos} {elt : Expr} {gs : List Comprehension} {scope : Scope} {r : Ob α} {mx : Option α} {m : α → Option O} (h : ExF C B Γ (.ListComp elt gs scope p3) r mx) (k : ∀ x, Sx C B (Γ.set i (.ow r x)) rest (m x) P)
    (hN : C.N[i]? = some n := by rfl) (hl : C.sc.names.lookup n = some .cell := by rfl) (hf : C.fnx n = true := by rfl) : Sx C B Γ (.Assign [.Name n p2] (.ListComp elt gs scope p3) pos :: rest) (mx.bind m) P := by
  intro X hX σ F H D o a hm hp
  obtain ⟨x, hx, hz⟩ := bd_some hm
  have hlX : X.env.scope.names.lookup n = some .cell := by rw [hX.sc]; exact hl
  refine tS_of (pss_cons (ps_set (by rw [hX.N]; exact hX.nd) (by rw [hX.N]; exact hN) (.inr hlX) pe_self (swc hlX) (.inl (by rw [hX.fnx]; exact hf))) pss_self) (h X hX σ F H _ x a hx fun p ho F' H' x1 n f q1 q => ?_)
  exact k x X hX _ F' H' D o (a.putO x1 n f q1 q) hz (P.mono x1.f hp)
end
end L2.T
set_option Elab.async false
set_option linter.all false
set_option maxRecDepth 100000
/-! Tables of one's own: a list of lists, all of one's own; a row may bear a second name. -/
namespace L2.T
open PySem PySem.Spec PyProof.Rows
/-- as it lies in the heap just now -/
def vH {α : Type} (r : R α) : Vp α := ⟨fun K _ H v x => r.rep K H v x, fun e h => r.up e.h h⟩
section
variable {C : Cc} {B : Bs} {Γ : List Sl} {α β γ τ : Type} {e a b : Expr} {es : List Expr} {pos : Pos}
theorem o_eqH {r : R α} [DecidableEq α] (d : Dt r) (h : d.dep ≤ 64 := by decide) : O2 C (compareOp .Eq) (vH r) (vH r) (vS rB) (fun x y => some (decide (x = y))) :=
  ⟨fun X hX => ⟨_, op_eqD hX.room.units, fun F H u v x y z Q f h1 h2 e k => by
    cases e
    refine ⟨d.enc x, d.enc y, d.dp (by rw [hX.K]; exact h1), d.dp (by rw [hX.K]; exact h2), d.shape h x, d.shape h y, ?_⟩
    rw [d.eqv]
    exact k _ F H (Ext.refl f) rfl⟩⟩
theorem o_neH {r : R α} [DecidableEq α] (d : Dt r) (h : d.dep ≤ 64 := by decide) : O2 C (compareOp .NotEq) (vH r) (vH r) (vS rB) (fun x y => some (!decide (x = y))) :=
  ⟨fun X hX => ⟨_, op_neD hX.room.units, fun F H u v x y z Q f h1 h2 e k => by
    cases e
    refine ⟨d.enc x, d.enc y, d.dp (by rw [hX.K]; exact h1), d.dp (by rw [hX.K]; exact h2), d.shape h x, d.shape h y, ?_⟩
    rw [d.eqv]
    exact k _ F H (Ext.refl f) rfl⟩⟩
theorem ex_hF {r : R α} {m : Option (List α)} (h : ExF C B Γ e (oL r) m) : Ex C B Γ e (vH (rL r)) m := by
  intro X hX σ F H Q z at' hm k
  refine h X hX σ F H _ z at' hm fun p ho F' H' x n f hp ⟨vs, e1, e2, e3⟩ => ?_
  subst e1
  exact k _ F' H' x ⟨p, vs, rfl, hp, e2, All2.imp (fun _ _ z => r.up x.fh z) e3⟩
/-- the rows, as they lie -/
theorem Rows2.all {K : Fg} {F H : Hp} {p : Addr} {ps : List V} {r : R α} {xss : List (List α)} (h : Rows2 K B F H p ps r xss) : All2 (fun v xs => ∃ q, v = .ref q ∧ Row2 K B F H r q xs) ps xss := h.2.2.2.2.2
theorem ex_tab (i : Nat) {n : Str} {r : R α} {ps : Option (List V)} {xss : List (List α)} (hi : Γ[i]? = some (.ow2 ps r xss) := by rfl) (hN : C.N[i]? = some n := by rfl) (hv : Vis C.sc n := by first | exact Or.inl rfl | exact Or.inr (Or.inl rfl) | exact Or.inr (Or.inr rfl)) (hd : (n == ("__debug__" : Str)) = false := by decide) (hcd : (n == ("__classdict__" : Str)) = false := by decide) :
    Ex C B Γ (.Name n pos) (vH (rL (rL r))) (some xss) := by
  intro X hX σ F H Q z at' hm k
  cases hm
  obtain ⟨p, qs, h1, _, h2, h3, h4, h5, h6, h7⟩ := at'.sl i _ hi
  refine tE_of (pe_var (by rw [hX.N]; exact hN) (vis_of hX hv) hd hcd) ⟨.ref p, h1, k _ F H (Ext.refl at'.fh) ⟨p, qs, rfl, h4, h5, All2.imp (fun v xs ⟨q, e0, _, _, vs, g1, g2, g3⟩ => ⟨q, vs, e0, g1, g2, All2.imp (fun _ _ z => r.up at'.fh z) g3⟩) h7⟩⟩
/-- a row, to be read -/
theorem ex_row (i : Nat) {n : Str} {p2 : Pos} {r : R α} {ps : Option (List V)} {xss : List (List α)} {mi : Option Int} (h : Ex C B Γ b (vS rI) mi) (hi : Γ[i]? = some (.ow2 ps r xss) := by rfl) (hN : C.N[i]? = some n := by rfl) (hv : Vis C.sc n := by first | exact Or.inl rfl | exact Or.inr (Or.inl rfl) | exact Or.inr (Or.inr rfl)) (hd : (n == ("__debug__" : Str)) = false := by decide) (hcd : (n == ("__classdict__" : Str)) = false := by decide)
    (hs : PlainIx b := by intro _ _; rfl) : Ex C B Γ (.Subscript (.Name n p2) b pos) (vL r) (mi.bind fun j => atG xss j) := by
  intro X hX σ F H Q z at' hm k
  obtain ⟨y, hy, hz⟩ := bd_some hm
  obtain ⟨p, qs, h1, _, h2, h3, h4, h5, h6, h7⟩ := at'.sl i _ hi
  refine tE_of (pe_ix ix_seq (pe_var (by rw [hX.N]; exact hN) (vis_of hX hv) hd hcd) pe_self hs) ⟨.ref p, h1, h X hX σ F H _ y at' hy fun v F2 H2 x2 q2 => ?_⟩
  obtain ⟨w, e5, q, e0, g0, g1, vs, g2, g3, g4⟩ := at_all h7 hz
  exact .inl ⟨p, qs, y, w, rfl, q2, .inl (.inl (x2.h _ _ h4)), e5, k w F2 H2 x2 ⟨q, vs, e0, x2.h _ _ g2, g3, All2.imp (fun _ _ z => r.up x2.f z) g4⟩⟩
/-- a row's second name -/
theorem ex_line (k i : Nat) {j : Nat} {n : Str} {r : R α} {ps : List V} {q : Addr} {xss : List (List α)} (hj : ps[j]? = some (.ref q)) (hk : Γ[k]? = some (.rf q) := by rfl) (hi : Γ[i]? = some (.ow2 (some ps) r xss) := by rfl) (hN : C.N[k]? = some n := by rfl) (hv : Vis C.sc n := by first | exact Or.inl rfl | exact Or.inr (Or.inl rfl) | exact Or.inr (Or.inr rfl)) (hd : (n == ("__debug__" : Str)) = false := by decide) (hcd : (n == ("__classdict__" : Str)) = false := by decide) :
    Ex C B Γ (.Name n pos) (vL r) (xss[j]?) := by
  intro X hX σ F H Q xs at' hx kk
  obtain ⟨p, qs, h1, h0, h2, h3, h4, h5, h6, h7⟩ := at'.sl i _ hi
  rcases h0 with h0 | h0
  · cases h0
  cases h0
  obtain ⟨v, e1, q', e0, g0, g1, vs, g2, g3, g4⟩ := h7.get hx
  rw [hj] at e1; cases e1; cases e0
  exact tE_of (pe_var (by rw [hX.N]; exact hN) (vis_of hX hv) hd hcd) ⟨.ref q, at'.sl k _ hk, kk _ F H (Ext.refl at'.fh) ⟨q, vs, rfl, g2, g3, g4⟩⟩
variable {rest sts : List Stmt} {O ρ : Type} {P : Po O}
/-- an empty list becomes a table -/
theorem sx_tab0 (i : Nat) {δ : Type} {r' : R δ} {r : R α} {m : Option O} (k : Sx C B (Γ.set i (.ow2 none r [])) sts m P) (hi : Γ[i]? = some (.ow (oL r') []) := by rfl) : Sx C B Γ sts m P := by
  intro X hX σ F H D o a hm hp
  obtain ⟨p, ho, h1, h2, h3, h4, vs, rfl, h5, h6⟩ := a.sl i _ hi
  cases vs with
  | cons _ _ => exact h6.elim
  | nil =>
    refine k X hX σ F H D o (a.gen hi (fun _ _ => rfl) ⟨p, [], h1, .inl rfl, h2, h3, h4, Nat.zero_le _, List.nodup_cons.mpr ⟨List.not_mem_nil, List.nodup_nil⟩, trivial⟩ fun q f => ?_) hm hp
    obtain ⟨p', e1, e2⟩ := f
    rw [h1] at e1; cases e1
    rcases e2 with e2 | ⟨vs, e2, e3⟩
    · subst e2; exact .inl h1
    · rw [h4] at e2; cases e2; cases e3
/-- the rows are given names -/
theorem sx_open (i : Nat) {r : R α} {xss : List (List α)} {m : Option O} (k : ∀ ps : List V, Sx C B (Γ.set i (.ow2 (some ps) r xss)) sts m P) (hi : Γ[i]? = some (.ow2 none r xss) := by rfl) : Sx C B Γ sts m P := by
  intro X hX σ F H D o a hm hp
  obtain ⟨p, qs, h1, h0, h2⟩ := a.sl i _ hi
  exact k qs X hX σ F H D o (a.gen hi (fun _ _ => rfl) ⟨p, qs, h1, .inr rfl, h2⟩ fun q f => .inl f) hm hp
theorem ixN_lt {n : Nat} {i : Int} {j : Nat} (h : ixN n i = some j) : j < n := (ixN_seq h).2.1
/-- x = xss[e] -/
theorem sx_alias (k i : Nat) {n t : Str} {p2 p3 ps2 : Pos} {r : R α} {ps : List V} {xss : List (List α)} {mi : Option Int} {m : Nat → Option O} (h : Ex C B Γ b (vS rI) mi) (kk : ∀ (j : Nat) (q : Addr), ps[j]? = some (.ref q) → Sx C B (Γ.set k (.rf q)) rest (m j) P)
    (hi : Γ[i]? = some (.ow2 (some ps) r xss) := by rfl) (hN : C.N[i]? = some n := by rfl) (hv : Vis C.sc n := by first | exact Or.inl rfl | exact Or.inr (Or.inl rfl) | exact Or.inr (Or.inr rfl)) (hd : (n == ("__debug__" : Str)) = false := by decide) (hcd : (n == ("__classdict__" : Str)) = false := by decide)
    (hs : PlainIx b := by intro _ _; rfl) (hNt : C.N[k]? = some t := by rfl) (hl : LocN C t := by first | exact Or.inl rfl | exact Or.inr ⟨rfl, rfl⟩) (hsw : NoSw (.Subscript (.Name n p2) b ps2) := by intro _ _ _; rfl) :
    Sx C B Γ (.Assign [.Name t p3] (.Subscript (.Name n p2) b ps2) pos :: rest) ((mi.bind fun i => ixN xss.length i).bind m) P := by
  intro X hX σ F H D o a hm hp
  obtain ⟨j, hz0, hz⟩ := bd_some hm
  obtain ⟨y, hy, hj⟩ := bd_some hz0
  obtain ⟨p, qs, h1, h0, h2, h3, h4, h5, h6, h7⟩ := a.sl i _ hi
  rcases h0 with h0 | h0
  · cases h0
  cases h0
  cases hx : xss[j]? with
  | none => exact absurd hx (fun e => by have := ixN_lt hj; rw [List.getElem?_eq_none_iff] at e; omega)
  | some xs =>
    obtain ⟨v, e1, q, e0, g0, g1, vs, g2, g3, g4⟩ := h7.get hx
    subst e0
    refine tS_of (pss_cons (ps_setC hX hNt hl (pe_ix ix_seq (pe_var (by rw [hX.N]; exact hN) (vis_of hX hv) hd hcd) pe_self hs) hsw) pss_self) ⟨.ref p, h1, h X hX σ F H _ y a hy fun v F2 H2 x2 q2 => ?_⟩
    refine .inl ⟨p, ps, y, .ref q, rfl, q2, .inl (.inl (x2.h _ _ h4)), ?_, ?_⟩
    · unfold atI
      rw [h7.len, hj]
      exact e1
    · exact kk j q e1 X hX _ F2 H2 D o ((a.ext x2).setN rfl rfl) hz (P.mono x2.f hp)
/-- the row's new value -/
theorem set_get {xss : List (List α)} {j : Nat} {xs ys : List α} (h : xss[j]? = some xs) : (xss.set j ys)[j]? = some ys := List.getElem?_set_self (List.getElem?_eq_some_iff.mp h).1
theorem All2.ofGet {β : Type} {p : V → β → Prop} : ∀ {as : List V} {bs : List β}, as.length = bs.length → (∀ (j : Nat) (a : V) (b : β), as[j]? = some a → bs[j]? = some b → p a b) → All2 p as bs
  | [], [], _, _ => trivial
  | [], _ :: _, h, _ => by cases h
  | _ :: _, [], h, _ => by cases h
  | a :: as, b :: bs, h, k => ⟨k 0 a b rfl rfl, All2.ofGet (by simpa using h) fun j a b h1 h2 => k (j + 1) a b (by simpa using h1) (by simpa using h2)⟩
theorem nd_get : ∀ {l : List V}, l.Nodup → ∀ {i j : Nat} {v : V}, l[i]? = some v → l[j]? = some v → i = j
  | [], _, i, _, _, h, _ => by simp at h
  | a :: l, hn, i, j, v, h1, h2 => by
    obtain ⟨n1, n2⟩ := List.nodup_cons.mp hn
    cases i with
    | zero =>
      cases j with
      | zero => rfl
      | succ j =>
        have e : a = v := by simpa using h1
        subst e
        exact absurd (List.mem_of_getElem? (by simpa using h2)) n1
    | succ i =>
      cases j with
      | zero =>
        have e : a = v := by simpa using h2
        subst e
        exact absurd (List.mem_of_getElem? (by simpa using h1)) n1
      | succ j => exact congrArg (· + 1) (nd_get n2 (by simpa using h1) (by simpa using h2))
/-- the table with one row changed -/
def setT (xss : List (List α)) (j : Nat) (mx : Option α) (mi : Option Int) : Option (List (List α)) := xss[j]?.bind fun xs => (b2 mx mi fun y c => setG xs c y).map fun ys => xss.set j ys
/-- a row is changed, by its second name -/
theorem sx_setR (k i : Nat) {j : Nat} {n : Str} {p2 ps2 : Pos} {r : R α} {ps : List V} {q : Addr} {xss : List (List α)} {mx : Option α} {mi : Option Int} {m : List (List α) → Option O} (hj : ps[j]? = some (.ref q)) (h : Ex C B Γ e (vS r) mx) (h2 : Ex C B Γ b (vS rI) mi)
    (kk : ∀ yss, Sx C B (Γ.set i (.ow2 (some ps) r yss)) rest (m yss) P)
    (hk : Γ[k]? = some (.rf q) := by rfl) (hi : Γ[i]? = some (.ow2 (some ps) r xss) := by rfl) (hN : C.N[k]? = some n := by rfl) (hv : Vis C.sc n := by first | exact Or.inl rfl | exact Or.inr (Or.inl rfl) | exact Or.inr (Or.inr rfl)) (hd : (n == ("__debug__" : Str)) = false := by decide) (hcd : (n == ("__classdict__" : Str)) = false := by decide)
    (ha : ∀ (env : Env) v, assign (.Subscript (.Name n p2) b ps2) env v = (do
      let ov ← holding [v] (eval (.Name n p2) env)
      let iv ← holding [v, ov] (eval b env)
      standAt ps2
      holding [v, ov, iv] (setItem ov iv v)
      release [v, ov, iv] []) := by intro _ _; rfl)
    (hs : ∀ (l : Nat) (env : Env), swapsWithSole [.Subscript (.Name n p2) b ps2] e l env = pure false := by intro _ _; rfl) (hw : ∀ (env : Env), swappedStores [.Subscript (.Name n p2) b ps2] e env = pure none := by intro _; rfl)
    (h1 : ∀ env : Env, (assignEach [.Subscript (.Name n p2) b ps2] env).map (·.2) = [assign (.Subscript (.Name n p2) b ps2) env] := by intro _; rfl) :
    Sx C B Γ (.Assign [.Subscript (.Name n p2) b ps2] e pos :: rest) ((setT xss j mx mi).bind m) P := by
  intro X hX σ F H D o a hm hp
  obtain ⟨z, hz0, hz⟩ := bd_some hm
  unfold setT at hz0
  obtain ⟨xs, hx, hz0⟩ := bd_some hz0
  cases hb2 : (b2 mx mi fun y c => setG xs c y) with
  | none => rw [hb2] at hz0; cases hz0
  | some ys =>
  rw [hb2] at hz0
  cases hz0
  obtain ⟨y, c, hy, hc, hg⟩ := b2_some hb2
  have gk := a.sl k _ hk
  obtain ⟨p, qs, t1, t0, t2, t3, t4, t5, t6, t7⟩ := a.sl i _ hi
  rcases t0 with t0 | t0
  · cases t0
  cases t0
  obtain ⟨v0, e1, q', e0, g0, g1, vs, g2, g3, g4⟩ := t7.get hx
  rw [hj] at e1; cases e1; cases e0
  unfold setG at hg
  cases hxx : ixN xs.length c with
  | none => rw [hxx] at hg; cases hg
  | some cc =>
    rw [hxx] at hg
    cases hg
    refine tS_of (pss_cons (ps_asg pe_self (pg_sub (pe_var (by rw [hX.N]; exact hN) (vis_of hX hv) hd hcd) pe_self set_list (ha X.env)) (hs _ _) (hw _) (h1 _)) pss_self) (h X hX σ F H _ y a hy fun w F1 H1 x1 q1 => ?_)
    refine ⟨.ref q, gk, h2 X hX σ F1 H1 _ c (a.ext x1) hc fun u F2 H2 x2 q2 => ?_⟩
    have x12 := x1.trans x2
    refine ⟨q, vs, c, cc, rfl, q2, x12.h _ _ g2, by rw [g4.len]; exact hxx, ?_⟩
    have a2 := a.ext x12
    have mq : V.ref q ∈ ps := List.mem_of_getElem? hj
    obtain ⟨n1, n2⟩ := List.nodup_cons.mp t6
    have pq : p ≠ q := fun e => n1 (by rw [e]; exact mq)
    have up : upd H2 q (.lst (vs.set cc w)) p = some (.lst ps) := by rw [upd_ne pq]; exact x12.h _ _ t4
    have fq : foot H2 σ[i]? q (.ow2 (some ps) r xss) := ⟨p, t1, .inr ⟨ps, x12.h _ _ t4, mq⟩⟩
    obtain ⟨p', qs', t1', t0', t2', t3', t4', t5', t6', t7'⟩ := a2.sl i _ hi
    rw [t1] at t1'; cases t1'
    rcases t0' with t0' | t0'
    · cases t0'
    cases t0'
    refine kk _ X hX σ F2 _ D o (a2.gen hi (fun q'' nf => upd_ne fun e => nf (by rw [e]; exact fq)) ⟨p, ps, t1, .inr rfl, t2', t3', up, t5', t6', All2.ofGet (by rw [List.length_set]; exact t7'.len) fun l v zs hl hz' => ?_⟩ fun q'' f => ?_) hz (P.mono x12.f hp)
    · by_cases ejl : j = l
      · subst ejl
        rw [hj] at hl; cases hl
        rw [set_get hx] at hz'; cases hz'
        refine ⟨q, rfl, g0, ?_, _, upd_same, by rw [List.length_set]; exact g3, All2.set cc (r.up x2.f q1) (All2.imp (fun _ _ z => r.up x12.f z) g4)⟩
        rw [x12.fr q _ g2]; exact g1
      · rw [List.getElem?_set_ne ejl] at hz'
        obtain ⟨v', e1', q'', e0', k0, k1, vs', k2, k3, k4⟩ := t7'.get hz'
        rw [hl] at e1'; cases e1'
        refine ⟨q'', e0', k0, k1, vs', ?_, k3, k4⟩
        rw [upd_ne]
        · exact k2
        · intro e
          subst e
          subst e0'
          exact ejl (nd_get n2 hj hl)
    · left
      obtain ⟨p'', e1'', e2''⟩ := f
      rw [t1] at e1''; cases e1''
      refine ⟨p, t1, ?_⟩
      rcases e2'' with e2'' | ⟨vs', k1, k2⟩
      · exact .inl e2''
      · rw [up] at k1; cases k1
        exact .inr ⟨ps, x12.h _ _ t4, k2⟩
/-- a new row -/
theorem sx_app2 (i : Nat) {n : Str} {p2 apos cpos : Pos} {r : R α} {ps : Option (List V)} {xss : List (List α)} {mx : Option (List α)} {m : List (List α) → Option O} (h : ExF C B Γ e (oL r) mx) (k : ∀ x, Sx C B (Γ.set i (.ow2 none r x)) rest (m x) P)
    (hi : Γ[i]? = some (.ow2 ps r xss) := by rfl) (hN : C.N[i]? = some n := by rfl) (hv : Vis C.sc n := by first | exact Or.inl rfl | exact Or.inr (Or.inl rfl) | exact Or.inr (Or.inr rfl)) (hd : (n == ("__debug__" : Str)) = false := by decide) (hcd : (n == ("__classdict__" : Str)) = false := by decide)
    (hst : ∀ env : Env, starEach [e] env = (false, eval e env) :: starEach [] env := by intro _; rfl)
    (hb : ∀ env : Env, attributeBase (.Name n p2) ("append" : Str) env (eval (.Name n p2) env) = eval (.Name n p2) env := by intro _; rfl)
    (hfew : ∀ env : Env, ((backTo cpos (starEach [e] env)).all (fun x => !x.1) && (backToKw cpos (keywordEach [] env)).all (fun x => x.1.isSome) && decide (([e] : List Expr).length + ([] : List Keyword).length + (if ([] : List Keyword).isEmpty then 0 else 1) < 30)) = true := by intro _; rfl)
    (hline : (apos.endLine == cpos.line) = true := by rfl) :
    Sx C B Γ (.Expr (.Call (.Attribute (.Name n p2) ("append" : Str) apos) [e] [] cpos) pos :: rest) ((mx.bind fun y => appG xss y).bind m) P := by
  intro X hX σ F H D o a hm hp
  obtain ⟨z, hz0, hz⟩ := bd_some hm
  obtain ⟨y, hy, hg⟩ := bd_some hz0
  unfold appG at hg
  split at hg
  · rename_i hlt
    cases hg
    obtain ⟨p, qs, h1, h0, h2, h3, h4, h5, h6, h7⟩ := a.sl i _ hi
    refine tS_of (pss_cons (ps_expr (pe_bm PySem.F.plainAttrs_list PySem.F.slot_list_append PySem.F.type_list_append mt_append (pe_var (by rw [hX.N]; exact hN) (vis_of hX hv) hd hcd) (pa_cons pe_self pa_nil (hst X.env)) (hb X.env) (hfew X.env) hline (hst X.env) rfl)) pss_self)
      ⟨.ref p, h1, isList_tyV h4, h X hX σ F H _ y a hy fun q ho F1 H1 x1 nq fq hq rq => ?_⟩
    obtain ⟨vs, e0, l1, l2⟩ := rq
    subst e0
    refine ⟨p, qs, .ref q, rfl, rfl, x1.h _ _ h4, by rw [h7.len]; exact hlt, ?_⟩
    have a1 := a.ext x1
    obtain ⟨n1, n2⟩ := List.nodup_cons.mp h6
    have hp1 : H1 p = some (.lst qs) := x1.h _ _ h4
    have pq : p ≠ q := fun e => by rw [e] at h4; rw [nq] at h4; cases h4
    have qn : V.ref q ∉ qs := fun m => by
      obtain ⟨xs, q', e, _, _, vs', g, _⟩ := h7.mem m
      cases e
      rw [nq] at g; cases g
    obtain ⟨p', qs', t1, t0, t2, t3, t4, t5, t6, t7⟩ := a1.sl i _ hi
    rw [h1] at t1; cases t1
    rw [hp1] at t4; cases t4
    have up : upd H1 p (.lst (qs ++ [V.ref q])) p = some (.lst (qs ++ [V.ref q])) := upd_same
    refine k _ X hX σ F1 _ D o (a1.gen hi (fun q'' nf => upd_ne fun e => nf (by rw [e]; exact ⟨p, h1, .inl rfl⟩)) ⟨p, qs ++ [V.ref q], h1, .inl rfl, t2, t3, up, by rw [List.length_append, h7.len]; exact hlt, ?_, All2.app (t7.impM fun v mv zs ⟨q'', e0, k0, k1, vs', k2, k3, k4⟩ => ⟨q'', e0, k0, k1, vs', ?_, k3, k4⟩) (All2.one ⟨q, rfl, a.h0.free nq, fq, vs, ?_, l1, l2⟩)⟩ fun q'' f => ?_) hz (P.mono x1.f hp)
    · refine List.nodup_cons.mpr ⟨fun m => ?_, List.nodup_append.mpr ⟨n2, List.nodup_cons.mpr ⟨List.not_mem_nil, List.nodup_nil⟩, fun v m1 w m2 e => ?_⟩⟩
      · rcases List.mem_append.mp m with m | m
        · exact n1 m
        · have := List.mem_singleton.mp m
          cases this; exact pq rfl
      · have := List.mem_singleton.mp m2
        subst this; subst e; exact qn m1
    · rw [upd_ne]
      · exact k2
      · intro e
        subst e; subst e0
        exact n1 mv
    · rw [upd_ne pq.symm]; exact hq
    · obtain ⟨p'', e1'', e2''⟩ := f
      rw [h1] at e1''; cases e1''
      rcases e2'' with e2'' | ⟨vs', k1, k2⟩
      · exact .inl ⟨p, h1, .inl e2''⟩
      · rw [up] at k1; cases k1
        rcases List.mem_append.mp k2 with k2 | k2
        · exact .inl ⟨p, h1, .inr ⟨qs, hp1, k2⟩⟩
        · have := List.mem_singleton.mp k2
          cases this
          refine .inr fun j t hij ht g => ?_
          obtain ⟨_, _, ho', g'⟩ := foot_in (a.sl j t ht) (foot_agree (foot_same (a.sl j t ht) x1.h) g)
          rw [nq] at g'; cases g'
  · cases hg
open Classical in
/-- a table is changed no more -/
theorem sx_frz2 (i : Nat) {r : R α} {ps : Option (List V)} {xss : List (List α)} {m : Option O} (k : Sx C B (Γ.set i (.sh (rL (rL r)) xss)) sts m P) (hi : Γ[i]? = some (.ow2 ps r xss) := by rfl) : Sx C B Γ sts m P := by
  intro X hX σ F H D o a hm hp
  obtain ⟨p, qs, h1, h0, h2, h3, h4, h5, h6, h7⟩ := a.sl i _ hi
  have ft : ∀ b, (b = p ∨ V.ref b ∈ qs) → foot H σ[i]? b (.ow2 ps r xss) := fun b hb => ⟨p, h1, hb.elim .inl fun z => .inr ⟨qs, h4, z⟩⟩
  have f1 : Same F (fun b => if b = p ∨ V.ref b ∈ qs then H b else F b) := fun b u e => by
    by_cases hb : b = p ∨ V.ref b ∈ qs
    · rw [(foot_in (a.sl i _ hi) (ft b hb)).2.1] at e; cases e
    · show (if b = p ∨ V.ref b ∈ qs then H b else F b) = _
      rw [if_neg hb]; exact e
  refine k X hX σ _ H D o (a.settle hi (fun b nf => if_neg fun hb => nf (ft b hb)) f1 (fun b u e => ?_) ⟨_, h1, p, qs, rfl, (if_pos (.inl rfl)).trans h4, h5, h7.impM fun v mv xs ⟨q, e0, g0, g1, vs, g2, g3, g4⟩ => ⟨q, vs, e0, (if_pos (.inr (by rw [← e0]; exact mv))).trans g2, g3, All2.imp (fun _ _ z => r.up f1 z) g4⟩⟩ rfl) hm (P.mono f1 hp)
  by_cases hb : b = p ∨ V.ref b ∈ qs
  · rw [if_pos hb] at e; exact e
  · rw [if_neg hb] at e; exact a.fh _ _ e
end
end L2.T
set_option Elab.async false
set_option linter.all false
set_option maxRecDepth 100000
/-! The head: facts by one run. -/
namespace L2.T
open PySem PySem.Spec PyProof.Rows
abbrev AlX : Type := He.AlD × Bool
def obsX (fa : List He.Fa) (fn : List He.DefD) (xb : Fg → Bool) (K : Fg) : AlX := (He.obsD fa fn K, xb K)
def obsXG (n : Nat) (fa : List He.Fa) (fn : List He.DefD) (xb : Fg → Bool) (g : Addr → Option Obj) : AlX := obsX fa fn xb (He.frG g (He.asD g n))
def hookX (n : Nat) (fa : List He.Fa) (fn : List He.DefD) (xb : Fg → Bool) : PySem.W.Hook where
  α := AlX
  obs := fun s => obsXG n fa fn xb s.heap.get?
  val := fun _ => (He.valD fn, true)
  says := fun _ h => ∃ K : Fg, K.In h ∧ He.SaysD fa fn K ∧ xb K = true
  of := fun _ _ e => ⟨_, He.frG_in, congrArg Prod.fst e, congrArg Prod.snd e⟩
  keeps := fun _ _ _ ⟨K, hK, c⟩ k => ⟨K, PySem.W.Frag.In.keeps hK k, c⟩
theorem obsXG_eq {n : Nat} {fa : List He.Fa} {fn : List He.DefD} {xb : Fg → Bool} {g : Addr → Option Obj} {s : Shared} (h : ∀ a, g a = s.heap.get? a) : obsXG n fa fn xb g = (hookX n fa fn xb).obs s := by
  have e : g = s.heap.get? := funext h
  rw [e] <;> rfl
/-- a name that holds a built-in function -/
def bltB (K : Fg) (x : Str) (v : Value) : Bool := He.eqO (PySem.W.nsIn K mainGlobals x) (some (some v))
theorem bltB_ok {K : Fg} {h : Heap} {mg : Str → Option Value} (X : K.In h) (G : h.Ns mainGlobals mg) {x : Str} {v : Value} (c : bltB K x v = true) : mg x = some v := PySem.W.mg_of X G (He.eqO_ok c)
theorem ba2 {a b : Bool} (h : (a && b) = true) : a = true ∧ b = true := Bool.and_eq_true_iff.mp h
/-- a written pair of ints -/
theorem z_pair {K : Fg} {mg : Str → Option Value} {x : Str} {i j : Int} (hm : mg x = some (.ref (He.ga K x))) (c : He.tupB K x [.int i, .int j] = true) : ∃ u v, mg x = some u ∧ RelV v u ∧ ∀ F, (rP rI rI).rep K F v (i, j) :=
  ⟨_, .ref (He.ga K x), hm, rfl, fun F => ⟨_, _, _, rfl, He.tupB_ok c F, rfl, rfl⟩⟩
theorem z_int {K : Fg} {mg : Str → Option Value} {x : Str} {i : Int} (h : ∃ t, mg x = some (.int i t)) : ∃ u v, mg x = some u ∧ RelV v u ∧ ∀ F, rI.rep K F v i := by
  obtain ⟨t, h⟩ := h
  exact ⟨_, .int i, h, ⟨t, rfl⟩, fun F => rfl⟩
end L2.T
set_option Elab.async false
set_option linter.all false
set_option maxRecDepth 100000
namespace K44
open PySem PySem.Spec PyProof.Rows L2 L2.T

def top (i : Nat) : Stmt := PySem.Challenge.pw_wherelaid_k44_whole_lengths_that_tell_ev.main.body.getD i (.Pass ⟨0, 0, 0, 0⟩)
abbrev TyCart : Type := ((Int × Int) × ((List (Int × Int)) × Unit))
abbrev fd_Cart : Fd TyCart := (fC "tread" (rP rI rI) (fC "axles" (rT (rP rI rI)) fN))
abbrev rCart : R TyCart := rIns "Cart" fd_Cart
structure Facts (d : Dc) : Prop where
  f_abs : d.mg ("abs" : Str) = none
  f_all : d.mg ("all" : Str) = none
  f_any : d.mg ("any" : Str) = none
  f_bool : d.mg ("bool" : Str) = none
  f_enumerate : d.mg ("enumerate" : Str) = none
  f_int : d.mg ("int" : Str) = none
  f_isinstance : d.mg ("isinstance" : Str) = none
  f_len : d.mg ("len" : Str) = none
  f_list : d.mg ("list" : Str) = none
  f_min : d.mg ("min" : Str) = none
  f_range : d.mg ("range" : Str) = none
  f_sorted : d.mg ("sorted" : Str) = none
  f_tuple : d.mg ("tuple" : Str) = none
  m_gcd : d.mg ("gcd" : Str) = some (.builtin "math.gcd")
  z_ZERO : ∃ u v, d.mg ("ZERO" : Str) = some u ∧ RelV v u ∧ ∀ F, (rP rI rI).rep d.K F v ((0 : Int), (1 : Int))
  z_SMALL : ∃ u v, d.mg ("SMALL" : Str) = some u ∧ RelV v u ∧ ∀ F, rI.rep d.K F v (10 ^ 12 : Int)
  g_is_whole : d.mg ("is_whole" : Str) = some (.ref (He.ga d.K "is_whole"))
  g_is_ratio : d.mg ("is_ratio" : Str) = some (.ref (He.ga d.K "is_ratio"))
  g_is_small : d.mg ("is_small" : Str) = some (.ref (He.ga d.K "is_small"))
  g_is_weight : d.mg ("is_weight" : Str) = some (.ref (He.ga d.K "is_weight"))
  g_lowest : d.mg ("_lowest" : Str) = some (.ref (He.ga d.K "_lowest"))
  g_plus : d.mg ("plus" : Str) = some (.ref (He.ga d.K "plus"))
  g_minus : d.mg ("minus" : Str) = some (.ref (He.ga d.K "minus"))
  g_times : d.mg ("times" : Str) = some (.ref (He.ga d.K "times"))
  g_compare : d.mg ("compare" : Str) = some (.ref (He.ga d.K "compare"))
  g_label_marks : d.mg ("label_marks" : Str) = some (.ref (He.ga d.K "label_marks"))
  g_lengths_of_stop : d.mg ("lengths_of_stop" : Str) = some (.ref (He.ga d.K "lengths_of_stop"))
  g_ranges_of_stops : d.mg ("ranges_of_stops" : Str) = some (.ref (He.ga d.K "ranges_of_stops"))
  g_is_length_within : d.mg ("is_length_within" : Str) = some (.ref (He.ga d.K "is_length_within"))
  g_critical_lengths : d.mg ("critical_lengths" : Str) = some (.ref (He.ga d.K "critical_lengths"))
  g_sure_lengths : d.mg ("sure_lengths" : Str) = some (.ref (He.ga d.K "sure_lengths"))
  g_law_digits : d.mg ("_law_digits" : Str) = some (.ref (He.ga d.K "_law_digits"))
  g_law_cell : d.mg ("_law_cell" : Str) = some (.ref (He.ga d.K "_law_cell"))
  g_law_gcd : d.mg ("_law_gcd" : Str) = some (.ref (He.ga d.K "_law_gcd"))
  g_law_ratio : d.mg ("_law_ratio" : Str) = some (.ref (He.ga d.K "_law_ratio"))
  g_law_axles : d.mg ("_law_axles" : Str) = some (.ref (He.ga d.K "_law_axles"))
  g_law_over_bottom : d.mg ("_law_over_bottom" : Str) = some (.ref (He.ga d.K "_law_over_bottom"))
  g_law_stand : d.mg ("_law_stand" : Str) = some (.ref (He.ga d.K "_law_stand"))
  g_law_shifts : d.mg ("_law_shifts" : Str) = some (.ref (He.ga d.K "_law_shifts"))
  g_law_stops : d.mg ("_law_stops" : Str) = some (.ref (He.ga d.K "_law_stops"))
  g_law_labels : d.mg ("_law_labels" : Str) = some (.ref (He.ga d.K "_law_labels"))
  g_law_is_sure : d.mg ("_law_is_sure" : Str) = some (.ref (He.ga d.K "_law_is_sure"))
  g_law_critical : d.mg ("_law_critical" : Str) = some (.ref (He.ga d.K "_law_critical"))
  g_law : d.mg ("law" : Str) = some (.ref (He.ga d.K "law"))
  cl_Cart : Cls d.K (He.ga d.K "Cart")
  g_Cart : d.mg ("Cart" : Str) = some (.ref (He.ga d.K "Cart"))
  mk_Cart : Mk d.K (He.ga d.K "Cart") (He.ma d.K (He.ga d.K "Cart") "__init__")
  na_Cart_axles : NoAttr d.K (He.ga d.K "Cart") "axles"
  na_Cart_tread : NoAttr d.K (He.ga d.K "Cart") "tread"
theorem Facts.c_ZERO {d : Dc} (G : Facts d) {N : List Str} {sc : Scope} {k : Nat} {B : Bs} {Γ : List Sl} {pos : Pos} (hg : sc.names.lookup ("ZERO" : Str) = some .globalImplicit := by rfl) : Ex (d.cc N sc k) B Γ (.Name ("ZERO" : Str) pos) (vS (rP rI rI)) (some ((0 : Int), (1 : Int))) := ex_globC G.z_ZERO hg
theorem Facts.c_SMALL {d : Dc} (G : Facts d) {N : List Str} {sc : Scope} {k : Nat} {B : Bs} {Γ : List Sl} {pos : Pos} (hg : sc.names.lookup ("SMALL" : Str) = some .globalImplicit := by rfl) : Ex (d.cc N sc k) B Γ (.Name ("SMALL" : Str) pos) (vS rI) (some (10 ^ 12 : Int)) := ex_globC G.z_SMALL hg
end K44
set_option Elab.async false
set_option linter.all false
set_option maxRecDepth 100000
namespace K44
open PySem PySem.Spec PyProof.Rows L2 L2.T

def m_is_whole (thing_1 : Int) (low_1 : (Option Int)) (high_1 : (Option Int)) : Option Bool :=
  bIf (bOr (some (!true)) (some false)) (some false) (bIf (bAnd (some low_1.isSome) (b2 (some thing_1) low_1 (fun x y => some (decide (x < y))))) (some false) (bOr (some high_1.isNone) (b2 (some thing_1) high_1 (fun x y => some (decide (x ≤ y))))))
abbrev s_is_whole : Stmt := top 8
theorem sc_is_whole : FnScope ["thing", "low", "high"] ["thing", "low", "high"] (defScope s_is_whole) := ⟨rfl, rfl, rfl, by decide +kernel, rfl, by decide +kernel, by decide +kernel⟩
set_option maxHeartbeats 4000000 in
theorem b_is_whole {d : Dc} (G : Facts d) (B : Bs) (thing_1 : Int) (low_1 : (Option Int)) (high_1 : (Option Int)) : Sx (d.cc ["thing", "low", "high"] (defScope s_is_whole) 0) B [.sh rI thing_1, .sh (rO rI) low_1, .sh (rO rI) high_1] (defBody s_is_whole) (m_is_whole thing_1 low_1 high_1) (pR (d.cc ["thing", "low", "high"] (defScope s_is_whole) 0) B (resS rB)) := by
  unfold m_is_whole
  refine sx_ifR (tt_w (tw_or (tt_not0 (tt_val (ex_isi (g := fun _ => true) (ex_var (r := rI) (x := thing_1) 0) (cv_ty G.f_int b_int) tyI (fun _ => kit_ty (by decide +kernel)) G.f_isinstance))) (tw_or1 (tt_val (ex_isi (g := fun _ => false) (ex_var (r := rI) (x := thing_1) 0) (cv_ty G.f_bool b_bool) tyI (fun _ => kit_ty (by decide +kernel)) G.f_isinstance))))) ?_ ?_ fin_R
  · exact sx_ret (ex_bl)
  · refine sx_ifR (tt_w (tw_and (tt_cmp0 o_notN (ex_var (r := (rO rI)) (x := low_1) 1) ex_unit) (tw_and1 (tt_cmp o_lt (ex_var (r := rI) (x := thing_1) 0) (ex_get (ex_var (r := (rO rI)) (x := low_1) 1)))))) ?_ ?_ fin_R
    · exact sx_ret (ex_bl)
    · exact sx_ret (ex_or (ex_cmp0 o_isN (ex_var (r := (rO rI)) (x := high_1) 2) ex_unit) (ex_one (ex_cmp o_le (ex_var (r := rI) (x := thing_1) 0) (ex_get (ex_var (r := (rO rI)) (x := high_1) 2)))))
def K_is_whole (d : Dc) : Prop := ∀ (N : List Str) (sc : Scope) (K : Nat), 1 ≤ K → Fk (d.cc N sc K) "is_whole" 3 (aC (vS rI) (aC (vS (rO rI)) (aC (vS (rO rI)) aN))) (fun t => m_is_whole t.1 t.2.1 t.2.2.1) (resS rB)
theorem o_is_whole {d : Dc} (G : Facts d) {fd : FuncData} {dvs : List V} (F : FunD d.K "is_whole" "is_whole" (defArgs s_is_whole) (defBody s_is_whole) (defScope s_is_whole) dvs [] (He.ga d.K "is_whole") fd) : FnOk d.P d.w d.K d.mg d.base CX0 1 (He.ga d.K "is_whole") fd ["thing", "low", "high"] (spT d.K (aC (vS rI) (aC (vS (rO rI)) (aC (vS (rO rI)) aN))) (fun t => m_is_whole t.1 t.2.1 t.2.2.1) (resS rB)) := by
  refine fn_ok (k := 0) F sc_is_whole (ars_cons (ars_cons (ars_cons ars_nil))) (fun _ => rfl) ?_
  rintro B ⟨thing_1, low_1, high_1, ⟨⟩⟩
  exact b_is_whole G  B thing_1 low_1 high_1
def K_is_whole__1 (d : Dc) : Prop := ∀ (N : List Str) (sc : Scope) (K : Nat), 1 ≤ K → Fk (d.cc N sc K) "is_whole" 1 (aC (vS rI) aN) (fun t => m_is_whole t.1 none none) (resS rB)
theorem k_is_whole__1 {d : Dc} (G : Facts d) {fd : FuncData} (F : FunD d.K "is_whole" "is_whole" (defArgs s_is_whole) (defBody s_is_whole) (defScope s_is_whole) [.non, .non] [] (He.ga d.K "is_whole") fd) : K_is_whole__1 d := fun N sc K h => by
  obtain ⟨ds, r, b⟩ := F.binds1 (ps := ["thing", "low", "high"]) 1 0 (by simp) rfl (fun T kV doc pm an cdv ct us its h1 h2 => match us, h1, its, h2 with | [_], _, [_, _], _ => ⟨_, rfl, rfl⟩)
  exact ⟨_, _, _, _, _, ds, _, h, G.g_is_whole, F.kp, b, r, o_is_whole G  F, fun vs H Q E hl q => by
    obtain ⟨F0, x, y, sf, ha, hm, kk⟩ := q
    obtain ⟨v0, w0, rfl, h0, rfl⟩ := ha
    exact ⟨F0, (x.1, none, none, ()), y, sf, ⟨v0, _, rfl, h0, _, _, rfl, rfl, _, _, rfl, rfl, rfl⟩, hm, kk⟩⟩
def K_is_whole__2 (d : Dc) : Prop := ∀ (N : List Str) (sc : Scope) (K : Nat), 1 ≤ K → Fk (d.cc N sc K) "is_whole" 2 (aC (vS rI) (aC (vS (rO rI)) aN)) (fun t => m_is_whole t.1 t.2.1 none) (resS rB)
theorem k_is_whole__2 {d : Dc} (G : Facts d) {fd : FuncData} (F : FunD d.K "is_whole" "is_whole" (defArgs s_is_whole) (defBody s_is_whole) (defScope s_is_whole) [.non, .non] [] (He.ga d.K "is_whole") fd) : K_is_whole__2 d := fun N sc K h => by
  obtain ⟨ds, r, b⟩ := F.binds1 (ps := ["thing", "low", "high"]) 2 1 (by simp) rfl (fun T kV doc pm an cdv ct us its h1 h2 => match us, h1, its, h2 with | [_, _], _, [_, _], _ => ⟨_, rfl, rfl⟩)
  exact ⟨_, _, _, _, _, ds, _, h, G.g_is_whole, F.kp, b, r, o_is_whole G  F, fun vs H Q E hl q => by
    obtain ⟨F0, x, y, sf, ha, hm, kk⟩ := q
    obtain ⟨v0, w0, rfl, h0, v1, w1, rfl, h1, rfl⟩ := ha
    exact ⟨F0, (x.1, x.2.1, none, ()), y, sf, ⟨v0, _, rfl, h0, v1, _, rfl, h1, _, _, rfl, rfl, rfl⟩, hm, kk⟩⟩
theorem k_is_whole {d : Dc} (G : Facts d) {fd : FuncData} (F : FunD d.K "is_whole" "is_whole" (defArgs s_is_whole) (defBody s_is_whole) (defScope s_is_whole) [.non, .non] [] (He.ga d.K "is_whole") fd) : K_is_whole d := fun N sc K h => by
  obtain ⟨ds, r, b⟩ := F.binds1 (ps := ["thing", "low", "high"]) 3 2 (by simp) rfl (fun T kV doc pm an cdv ct us its h1 h2 => match us, h1, its, h2 with | [_, _, _], _, [_, _], _ => ⟨_, rfl, rfl⟩)
  exact ⟨_, _, _, _, _, ds, _, h, G.g_is_whole, F.kp, b, r, o_is_whole G  F, fun vs H Q E hl q => by show spT _ _ _ _ (vs ++ []) H Q E; rw [List.append_nil]; exact q⟩
end K44
set_option Elab.async false
set_option linter.all false
set_option maxRecDepth 100000
namespace K44
open PySem PySem.Spec PyProof.Rows L2 L2.T

def m_is_ratio (thing_1 : (Int × Int)) : Option Bool :=
  bIf (bOr (some (!true)) (some (!decide ((([thing_1.1, thing_1.2]).length : Int) = (2 : Int))))) (some false) (bIf (bOr ((m_is_whole thing_1.1 none none).map (fun c => !c)) ((m_is_whole thing_1.2 (some (1 : Int)) none).map (fun c => !c))) (some false) (some (decide (((Nat.gcd thing_1.1.natAbs thing_1.2.natAbs : Nat) : Int) = (1 : Int)))))
abbrev s_is_ratio : Stmt := top 9
theorem sc_is_ratio : FnScope ["thing"] ["thing"] (defScope s_is_ratio) := ⟨rfl, rfl, rfl, by decide +kernel, rfl, by decide +kernel, by decide +kernel⟩
set_option maxHeartbeats 4000000 in
theorem b_is_ratio {d : Dc} (G : Facts d) (K_is_whole__1 : K_is_whole__1 d) (K_is_whole__2 : K_is_whole__2 d) (B : Bs) (thing_1 : (Int × Int)) : Sx (d.cc ["thing"] (defScope s_is_ratio) 1) B [.sh (rP rI rI) thing_1] (defBody s_is_ratio) (m_is_ratio thing_1) (pR (d.cc ["thing"] (defScope s_is_ratio) 1) B (resS rB)) := by
  replace K_is_whole__1 := K_is_whole__1 ["thing"] (defScope s_is_ratio) 1 (by decide)
  replace K_is_whole__2 := K_is_whole__2 ["thing"] (defScope s_is_ratio) 1 (by decide)
  unfold m_is_ratio
  refine sx_ifR (tt_w (tw_or (tt_not0 (tt_val (ex_isi (g := fun _ => true) (ex_var (r := (rP rI rI)) (x := thing_1) 0) (cv_ty G.f_tuple b_tuple) tyP (fun _ => kit_ty (by decide +kernel)) G.f_isinstance))) (tw_or1 (tt_cmp0 (o_ne dI) (ex_callB0 c_len G.f_len b_len (ea_cons0 (ex_qP0 (ex_var (r := (rP rI rI)) (x := thing_1) 0)) (ea_nil))) (ex_int))))) ?_ ?_ fin_R
  · exact sx_ret (ex_bl)
  · refine sx_ifR (tt_w (tw_or (tt_not (tt_val (ex_call0 K_is_whole__1 (ea_cons0 (ex_at00 (ex_var (r := (rP rI rI)) (x := thing_1) 0)) (ea_nil)) (alS (fun _ _ _ _ _ => al0))))) (tw_or1 (tt_not (tt_val (ex_call0 K_is_whole__2 (ea_cons0 (ex_at10 (ex_var (r := (rP rI rI)) (x := thing_1) 0)) (ea_cons0 (ex_some nnI (ex_int)) (ea_nil))) (alS (alS (fun _ _ _ _ _ => al0))))))))) ?_ ?_ fin_R
    · exact sx_ret (ex_bl)
    · exact sx_ret (ex_cmp0 (o_eq dI) (ex_callG (m := some (thing_1.1, (thing_1.2, ()))) c_gcd G.m_gcd (ea_cons0 (ex_at00 (ex_var (r := (rP rI rI)) (x := thing_1) 0)) (ea_cons0 (ex_at10 (ex_var (r := (rP rI rI)) (x := thing_1) 0)) (ea_nil)))) (ex_int))
def K_is_ratio (d : Dc) : Prop := ∀ (N : List Str) (sc : Scope) (K : Nat), 2 ≤ K → Fk (d.cc N sc K) "is_ratio" 1 (aC (vS (rP rI rI)) aN) (fun t => m_is_ratio t.1) (resS rB)
theorem o_is_ratio {d : Dc} (G : Facts d) (K_is_whole__1 : K_is_whole__1 d) (K_is_whole__2 : K_is_whole__2 d) {fd : FuncData} {dvs : List V} (F : FunD d.K "is_ratio" "is_ratio" (defArgs s_is_ratio) (defBody s_is_ratio) (defScope s_is_ratio) dvs [] (He.ga d.K "is_ratio") fd) : FnOk d.P d.w d.K d.mg d.base CX0 2 (He.ga d.K "is_ratio") fd ["thing"] (spT d.K (aC (vS (rP rI rI)) aN) (fun t => m_is_ratio t.1) (resS rB)) := by
  refine fn_ok (k := 1) F sc_is_ratio (ars_cons ars_nil) (fun _ => rfl) ?_
  rintro B ⟨thing_1, ⟨⟩⟩
  exact b_is_ratio G K_is_whole__1 K_is_whole__2 B thing_1
theorem k_is_ratio {d : Dc} (G : Facts d) (K_is_whole__1 : K_is_whole__1 d) (K_is_whole__2 : K_is_whole__2 d) {fd : FuncData} (F : FunD d.K "is_ratio" "is_ratio" (defArgs s_is_ratio) (defBody s_is_ratio) (defScope s_is_ratio) [] [] (He.ga d.K "is_ratio") fd) : K_is_ratio d := fun N sc K h =>
  fk_of (o_is_ratio G K_is_whole__1 K_is_whole__2 F) G.g_is_ratio F.kp (F.bindsN fun _ _ _ _ _ _ us hl => match us, hl with | [_], _ => rfl) h
end K44
set_option Elab.async false
set_option linter.all false
set_option maxRecDepth 100000
namespace K44
open PySem PySem.Spec PyProof.Rows L2 L2.T

def m_is_small (thing_1 : (Int × Int)) : Option Bool :=
  bAnd (m_is_ratio thing_1) (bAnd (bAnd (some (decide ((-(10 ^ 12 : Int)) ≤ thing_1.1))) (some (decide (thing_1.1 ≤ (10 ^ 12 : Int))))) (some (decide (thing_1.2 ≤ (10 ^ 12 : Int)))))
abbrev s_is_small : Stmt := top 10
theorem sc_is_small : FnScope ["thing"] ["thing"] (defScope s_is_small) := ⟨rfl, rfl, rfl, by decide +kernel, rfl, by decide +kernel, by decide +kernel⟩
set_option maxHeartbeats 4000000 in
theorem b_is_small {d : Dc} (G : Facts d) (K_is_ratio : K_is_ratio d) (B : Bs) (thing_1 : (Int × Int)) : Sx (d.cc ["thing"] (defScope s_is_small) 2) B [.sh (rP rI rI) thing_1] (defBody s_is_small) (m_is_small thing_1) (pR (d.cc ["thing"] (defScope s_is_small) 2) B (resS rB)) := by
  replace K_is_ratio := K_is_ratio ["thing"] (defScope s_is_small) 2 (by decide)
  unfold m_is_small
  exact sx_ret (ex_and (ex_call0 K_is_ratio (ea_cons0 (ex_var (r := (rP rI rI)) (x := thing_1) 0) (ea_nil)) (alS (fun _ _ _ _ _ => al0))) (ex_and (ex_chain o_le o_le (ex_neg0 (G.c_SMALL)) (ex_at00 (ex_var (r := (rP rI rI)) (x := thing_1) 0)) (G.c_SMALL)) (ex_one (ex_cmp0 o_le (ex_at10 (ex_var (r := (rP rI rI)) (x := thing_1) 0)) (G.c_SMALL)))))
def K_is_small (d : Dc) : Prop := ∀ (N : List Str) (sc : Scope) (K : Nat), 3 ≤ K → Fk (d.cc N sc K) "is_small" 1 (aC (vS (rP rI rI)) aN) (fun t => m_is_small t.1) (resS rB)
theorem o_is_small {d : Dc} (G : Facts d) (K_is_ratio : K_is_ratio d) {fd : FuncData} {dvs : List V} (F : FunD d.K "is_small" "is_small" (defArgs s_is_small) (defBody s_is_small) (defScope s_is_small) dvs [] (He.ga d.K "is_small") fd) : FnOk d.P d.w d.K d.mg d.base CX0 3 (He.ga d.K "is_small") fd ["thing"] (spT d.K (aC (vS (rP rI rI)) aN) (fun t => m_is_small t.1) (resS rB)) := by
  refine fn_ok (k := 2) F sc_is_small (ars_cons ars_nil) (fun _ => rfl) ?_
  rintro B ⟨thing_1, ⟨⟩⟩
  exact b_is_small G K_is_ratio B thing_1
theorem k_is_small {d : Dc} (G : Facts d) (K_is_ratio : K_is_ratio d) {fd : FuncData} (F : FunD d.K "is_small" "is_small" (defArgs s_is_small) (defBody s_is_small) (defScope s_is_small) [] [] (He.ga d.K "is_small") fd) : K_is_small d := fun N sc K h =>
  fk_of (o_is_small G K_is_ratio F) G.g_is_small F.kp (F.bindsN fun _ _ _ _ _ _ us hl => match us, hl with | [_], _ => rfl) h
end K44
set_option Elab.async false
set_option linter.all false
set_option maxRecDepth 100000
namespace K44
open PySem PySem.Spec PyProof.Rows L2 L2.T

def m_is_weight (thing_1 : (Int × Int)) : Option Bool :=
  bAnd (m_is_small thing_1) (some (decide (thing_1.1 ≥ (0 : Int))))
abbrev s_is_weight : Stmt := top 11
theorem sc_is_weight : FnScope ["thing"] ["thing"] (defScope s_is_weight) := ⟨rfl, rfl, rfl, by decide +kernel, rfl, by decide +kernel, by decide +kernel⟩
set_option maxHeartbeats 4000000 in
theorem b_is_weight {d : Dc} (G : Facts d) (K_is_small : K_is_small d) (B : Bs) (thing_1 : (Int × Int)) : Sx (d.cc ["thing"] (defScope s_is_weight) 3) B [.sh (rP rI rI) thing_1] (defBody s_is_weight) (m_is_weight thing_1) (pR (d.cc ["thing"] (defScope s_is_weight) 3) B (resS rB)) := by
  replace K_is_small := K_is_small ["thing"] (defScope s_is_weight) 3 (by decide)
  unfold m_is_weight
  exact sx_ret (ex_and (ex_call0 K_is_small (ea_cons0 (ex_var (r := (rP rI rI)) (x := thing_1) 0) (ea_nil)) (alS (fun _ _ _ _ _ => al0))) (ex_one (ex_cmp0 o_ge (ex_at00 (ex_var (r := (rP rI rI)) (x := thing_1) 0)) (ex_int))))
def K_is_weight (d : Dc) : Prop := ∀ (N : List Str) (sc : Scope) (K : Nat), 4 ≤ K → Fk (d.cc N sc K) "is_weight" 1 (aC (vS (rP rI rI)) aN) (fun t => m_is_weight t.1) (resS rB)
theorem o_is_weight {d : Dc} (G : Facts d) (K_is_small : K_is_small d) {fd : FuncData} {dvs : List V} (F : FunD d.K "is_weight" "is_weight" (defArgs s_is_weight) (defBody s_is_weight) (defScope s_is_weight) dvs [] (He.ga d.K "is_weight") fd) : FnOk d.P d.w d.K d.mg d.base CX0 4 (He.ga d.K "is_weight") fd ["thing"] (spT d.K (aC (vS (rP rI rI)) aN) (fun t => m_is_weight t.1) (resS rB)) := by
  refine fn_ok (k := 3) F sc_is_weight (ars_cons ars_nil) (fun _ => rfl) ?_
  rintro B ⟨thing_1, ⟨⟩⟩
  exact b_is_weight G K_is_small B thing_1
theorem k_is_weight {d : Dc} (G : Facts d) (K_is_small : K_is_small d) {fd : FuncData} (F : FunD d.K "is_weight" "is_weight" (defArgs s_is_weight) (defBody s_is_weight) (defScope s_is_weight) [] [] (He.ga d.K "is_weight") fd) : K_is_weight d := fun N sc K h =>
  fk_of (o_is_weight G K_is_small F) G.g_is_weight F.kp (F.bindsN fun _ _ _ _ _ _ us hl => match us, hl with | [_], _ => rfl) h
end K44
set_option Elab.async false
set_option linter.all false
set_option maxRecDepth 100000
namespace K44
open PySem PySem.Spec PyProof.Rows L2 L2.T

def m_lowest (top_1 : Int) (bottom_1 : Int) : Option (Int × Int) :=
  (bIf (some (decide (bottom_1 < (0 : Int)))) ((some (-top_1)).bind (fun top_2 => (some (-bottom_1)).bind (fun bottom_2 => some (top_2, bottom_2)))) (some (top_1, bottom_1))).bind (fun j_1 => (some ((Nat.gcd j_1.1.natAbs j_1.2.natAbs : Nat) : Int)).bind (fun part_1 => (b2 (divG j_1.1 part_1) (b2 (divG j_1.2 part_1) (some ()) (fun x y => some (x, y))) (fun x y => some (x, y))).map (fun t => (t.1, t.2.1))))
abbrev s_lowest : Stmt := top 12
theorem sc_lowest : FnScope ["top", "bottom", "part"] ["top", "bottom"] (defScope s_lowest) := ⟨rfl, rfl, rfl, by decide +kernel, rfl, by decide +kernel, by decide +kernel⟩
set_option maxHeartbeats 4000000 in
theorem b_lowest {d : Dc} (G : Facts d) (B : Bs) (top_1 : Int) (bottom_1 : Int) : Sx (d.cc ["top", "bottom", "part"] (defScope s_lowest) 0) B [.sh rI top_1, .sh rI bottom_1, .no] (defBody s_lowest) (m_lowest top_1 bottom_1) (pR (d.cc ["top", "bottom", "part"] (defScope s_lowest) 0) B (resS (rP rI rI))) := by
  unfold m_lowest
  refine sx_ifJ (fun j_1 => [.sh rI j_1.1, .sh rI j_1.2, .no]) (tt_cmp0 o_lt (ex_var (r := rI) (x := bottom_1) 1) (ex_int)) ?_ ?_ (fun j_1 => ?_)
  · refine sx_bind 0 (ex_neg0 (ex_var (r := rI) (x := top_1) 0)) (fun top_2 => ?_)
    refine sx_bind 1 (ex_neg0 (ex_var (r := rI) (x := bottom_1) 1)) (fun bottom_2 => ?_)
    exact sx_nil (.s (.s (.s (.n))) : Wk [.sh rI top_2, .sh rI bottom_2, .no] [.sh rI top_2, .sh rI bottom_2, .no])
  · exact sx_nil (.s (.s (.s (.n))) : Wk [.sh rI top_1, .sh rI bottom_1, .no] [.sh rI top_1, .sh rI bottom_1, .no])
  refine sx_bind 2 (ex_callG (m := some (j_1.1, (j_1.2, ()))) c_gcd G.m_gcd (ea_cons0 (ex_var (r := rI) (x := j_1.1) 0) (ea_cons0 (ex_var (r := rI) (x := j_1.2) 1) (ea_nil)))) (fun part_1 => ?_)
  exact sx_ret (ex_tup2 (ea_cons (ex_bin0 o_div (ex_var (r := rI) (x := j_1.1) 0) (ex_var (r := rI) (x := part_1) 2)) (ea_cons (ex_bin0 o_div (ex_var (r := rI) (x := j_1.2) 1) (ex_var (r := rI) (x := part_1) 2)) (ea_nil))))
def K_lowest (d : Dc) : Prop := ∀ (N : List Str) (sc : Scope) (K : Nat), 1 ≤ K → Fk (d.cc N sc K) "_lowest" 2 (aC (vS rI) (aC (vS rI) aN)) (fun t => m_lowest t.1 t.2.1) (resS (rP rI rI))
theorem o_lowest {d : Dc} (G : Facts d) {fd : FuncData} {dvs : List V} (F : FunD d.K "_lowest" "_lowest" (defArgs s_lowest) (defBody s_lowest) (defScope s_lowest) dvs [] (He.ga d.K "_lowest") fd) : FnOk d.P d.w d.K d.mg d.base CX0 1 (He.ga d.K "_lowest") fd ["top", "bottom"] (spT d.K (aC (vS rI) (aC (vS rI) aN)) (fun t => m_lowest t.1 t.2.1) (resS (rP rI rI))) := by
  refine fn_ok (k := 0) F sc_lowest (ars_cons (ars_cons ars_nil)) (fun _ => rfl) ?_
  rintro B ⟨top_1, bottom_1, ⟨⟩⟩
  exact b_lowest G  B top_1 bottom_1
theorem k_lowest {d : Dc} (G : Facts d) {fd : FuncData} (F : FunD d.K "_lowest" "_lowest" (defArgs s_lowest) (defBody s_lowest) (defScope s_lowest) [] [] (He.ga d.K "_lowest") fd) : K_lowest d := fun N sc K h =>
  fk_of (o_lowest G  F) G.g_lowest F.kp (F.bindsN fun _ _ _ _ _ _ us hl => match us, hl with | [_, _], _ => rfl) h
end K44
set_option Elab.async false
set_option linter.all false
set_option maxRecDepth 100000
namespace K44
open PySem PySem.Spec PyProof.Rows L2 L2.T

def m_plus (one_1 : (Int × Int)) (two_1 : (Int × Int)) : Option (Int × Int) :=
  (b2 (b2 (mulG one_1.1 two_1.2) (mulG two_1.1 one_1.2) (fun x y => some (x + y))) (b2 (mulG one_1.2 two_1.2) (some ()) (fun x y => some (x, y))) (fun x y => some (x, y))).bind (fun t => m_lowest t.1 t.2.1)
abbrev s_plus : Stmt := top 13
theorem sc_plus : FnScope ["one", "two"] ["one", "two"] (defScope s_plus) := ⟨rfl, rfl, rfl, by decide +kernel, rfl, by decide +kernel, by decide +kernel⟩
set_option maxHeartbeats 4000000 in
theorem b_plus {d : Dc} (G : Facts d) (K_lowest : K_lowest d) (B : Bs) (one_1 : (Int × Int)) (two_1 : (Int × Int)) : Sx (d.cc ["one", "two"] (defScope s_plus) 1) B [.sh (rP rI rI) one_1, .sh (rP rI rI) two_1] (defBody s_plus) (m_plus one_1 two_1) (pR (d.cc ["one", "two"] (defScope s_plus) 1) B (resS (rP rI rI))) := by
  replace K_lowest := K_lowest ["one", "two"] (defScope s_plus) 1 (by decide)
  unfold m_plus
  exact sx_ret (ex_call K_lowest (ea_cons (ex_bin o_add (ex_bin0 o_mul (ex_at00 (ex_var (r := (rP rI rI)) (x := one_1) 0)) (ex_at10 (ex_var (r := (rP rI rI)) (x := two_1) 1))) (ex_bin0 o_mul (ex_at00 (ex_var (r := (rP rI rI)) (x := two_1) 1)) (ex_at10 (ex_var (r := (rP rI rI)) (x := one_1) 0)))) (ea_cons (ex_bin0 o_mul (ex_at10 (ex_var (r := (rP rI rI)) (x := one_1) 0)) (ex_at10 (ex_var (r := (rP rI rI)) (x := two_1) 1))) (ea_nil))) (alS (alS (fun _ _ _ _ _ => al0))))
def K_plus (d : Dc) : Prop := ∀ (N : List Str) (sc : Scope) (K : Nat), 2 ≤ K → Fk (d.cc N sc K) "plus" 2 (aC (vS (rP rI rI)) (aC (vS (rP rI rI)) aN)) (fun t => m_plus t.1 t.2.1) (resS (rP rI rI))
theorem o_plus {d : Dc} (G : Facts d) (K_lowest : K_lowest d) {fd : FuncData} {dvs : List V} (F : FunD d.K "plus" "plus" (defArgs s_plus) (defBody s_plus) (defScope s_plus) dvs [] (He.ga d.K "plus") fd) : FnOk d.P d.w d.K d.mg d.base CX0 2 (He.ga d.K "plus") fd ["one", "two"] (spT d.K (aC (vS (rP rI rI)) (aC (vS (rP rI rI)) aN)) (fun t => m_plus t.1 t.2.1) (resS (rP rI rI))) := by
  refine fn_ok (k := 1) F sc_plus (ars_cons (ars_cons ars_nil)) (fun _ => rfl) ?_
  rintro B ⟨one_1, two_1, ⟨⟩⟩
  exact b_plus G K_lowest B one_1 two_1
theorem k_plus {d : Dc} (G : Facts d) (K_lowest : K_lowest d) {fd : FuncData} (F : FunD d.K "plus" "plus" (defArgs s_plus) (defBody s_plus) (defScope s_plus) [] [] (He.ga d.K "plus") fd) : K_plus d := fun N sc K h =>
  fk_of (o_plus G K_lowest F) G.g_plus F.kp (F.bindsN fun _ _ _ _ _ _ us hl => match us, hl with | [_, _], _ => rfl) h
end K44
set_option Elab.async false
set_option linter.all false
set_option maxRecDepth 100000
namespace K44
open PySem PySem.Spec PyProof.Rows L2 L2.T

def m_minus (one_1 : (Int × Int)) (two_1 : (Int × Int)) : Option (Int × Int) :=
  (b2 (b2 (mulG one_1.1 two_1.2) (mulG two_1.1 one_1.2) (fun x y => some (x - y))) (b2 (mulG one_1.2 two_1.2) (some ()) (fun x y => some (x, y))) (fun x y => some (x, y))).bind (fun t => m_lowest t.1 t.2.1)
abbrev s_minus : Stmt := top 14
theorem sc_minus : FnScope ["one", "two"] ["one", "two"] (defScope s_minus) := ⟨rfl, rfl, rfl, by decide +kernel, rfl, by decide +kernel, by decide +kernel⟩
set_option maxHeartbeats 4000000 in
theorem b_minus {d : Dc} (G : Facts d) (K_lowest : K_lowest d) (B : Bs) (one_1 : (Int × Int)) (two_1 : (Int × Int)) : Sx (d.cc ["one", "two"] (defScope s_minus) 1) B [.sh (rP rI rI) one_1, .sh (rP rI rI) two_1] (defBody s_minus) (m_minus one_1 two_1) (pR (d.cc ["one", "two"] (defScope s_minus) 1) B (resS (rP rI rI))) := by
  replace K_lowest := K_lowest ["one", "two"] (defScope s_minus) 1 (by decide)
  unfold m_minus
  exact sx_ret (ex_call K_lowest (ea_cons (ex_bin o_sub (ex_bin0 o_mul (ex_at00 (ex_var (r := (rP rI rI)) (x := one_1) 0)) (ex_at10 (ex_var (r := (rP rI rI)) (x := two_1) 1))) (ex_bin0 o_mul (ex_at00 (ex_var (r := (rP rI rI)) (x := two_1) 1)) (ex_at10 (ex_var (r := (rP rI rI)) (x := one_1) 0)))) (ea_cons (ex_bin0 o_mul (ex_at10 (ex_var (r := (rP rI rI)) (x := one_1) 0)) (ex_at10 (ex_var (r := (rP rI rI)) (x := two_1) 1))) (ea_nil))) (alS (alS (fun _ _ _ _ _ => al0))))
def K_minus (d : Dc) : Prop := ∀ (N : List Str) (sc : Scope) (K : Nat), 2 ≤ K → Fk (d.cc N sc K) "minus" 2 (aC (vS (rP rI rI)) (aC (vS (rP rI rI)) aN)) (fun t => m_minus t.1 t.2.1) (resS (rP rI rI))
theorem o_minus {d : Dc} (G : Facts d) (K_lowest : K_lowest d) {fd : FuncData} {dvs : List V} (F : FunD d.K "minus" "minus" (defArgs s_minus) (defBody s_minus) (defScope s_minus) dvs [] (He.ga d.K "minus") fd) : FnOk d.P d.w d.K d.mg d.base CX0 2 (He.ga d.K "minus") fd ["one", "two"] (spT d.K (aC (vS (rP rI rI)) (aC (vS (rP rI rI)) aN)) (fun t => m_minus t.1 t.2.1) (resS (rP rI rI))) := by
  refine fn_ok (k := 1) F sc_minus (ars_cons (ars_cons ars_nil)) (fun _ => rfl) ?_
  rintro B ⟨one_1, two_1, ⟨⟩⟩
  exact b_minus G K_lowest B one_1 two_1
theorem k_minus {d : Dc} (G : Facts d) (K_lowest : K_lowest d) {fd : FuncData} (F : FunD d.K "minus" "minus" (defArgs s_minus) (defBody s_minus) (defScope s_minus) [] [] (He.ga d.K "minus") fd) : K_minus d := fun N sc K h =>
  fk_of (o_minus G K_lowest F) G.g_minus F.kp (F.bindsN fun _ _ _ _ _ _ us hl => match us, hl with | [_, _], _ => rfl) h
end K44
set_option Elab.async false
set_option linter.all false
set_option maxRecDepth 100000
namespace K44
open PySem PySem.Spec PyProof.Rows L2 L2.T

def m_times (one_1 : (Int × Int)) (two_1 : (Int × Int)) : Option (Int × Int) :=
  (b2 (mulG one_1.1 two_1.1) (b2 (mulG one_1.2 two_1.2) (some ()) (fun x y => some (x, y))) (fun x y => some (x, y))).bind (fun t => m_lowest t.1 t.2.1)
abbrev s_times : Stmt := top 15
theorem sc_times : FnScope ["one", "two"] ["one", "two"] (defScope s_times) := ⟨rfl, rfl, rfl, by decide +kernel, rfl, by decide +kernel, by decide +kernel⟩
set_option maxHeartbeats 4000000 in
theorem b_times {d : Dc} (G : Facts d) (K_lowest : K_lowest d) (B : Bs) (one_1 : (Int × Int)) (two_1 : (Int × Int)) : Sx (d.cc ["one", "two"] (defScope s_times) 1) B [.sh (rP rI rI) one_1, .sh (rP rI rI) two_1] (defBody s_times) (m_times one_1 two_1) (pR (d.cc ["one", "two"] (defScope s_times) 1) B (resS (rP rI rI))) := by
  replace K_lowest := K_lowest ["one", "two"] (defScope s_times) 1 (by decide)
  unfold m_times
  exact sx_ret (ex_call K_lowest (ea_cons (ex_bin0 o_mul (ex_at00 (ex_var (r := (rP rI rI)) (x := one_1) 0)) (ex_at00 (ex_var (r := (rP rI rI)) (x := two_1) 1))) (ea_cons (ex_bin0 o_mul (ex_at10 (ex_var (r := (rP rI rI)) (x := one_1) 0)) (ex_at10 (ex_var (r := (rP rI rI)) (x := two_1) 1))) (ea_nil))) (alS (alS (fun _ _ _ _ _ => al0))))
def K_times (d : Dc) : Prop := ∀ (N : List Str) (sc : Scope) (K : Nat), 2 ≤ K → Fk (d.cc N sc K) "times" 2 (aC (vS (rP rI rI)) (aC (vS (rP rI rI)) aN)) (fun t => m_times t.1 t.2.1) (resS (rP rI rI))
theorem o_times {d : Dc} (G : Facts d) (K_lowest : K_lowest d) {fd : FuncData} {dvs : List V} (F : FunD d.K "times" "times" (defArgs s_times) (defBody s_times) (defScope s_times) dvs [] (He.ga d.K "times") fd) : FnOk d.P d.w d.K d.mg d.base CX0 2 (He.ga d.K "times") fd ["one", "two"] (spT d.K (aC (vS (rP rI rI)) (aC (vS (rP rI rI)) aN)) (fun t => m_times t.1 t.2.1) (resS (rP rI rI))) := by
  refine fn_ok (k := 1) F sc_times (ars_cons (ars_cons ars_nil)) (fun _ => rfl) ?_
  rintro B ⟨one_1, two_1, ⟨⟩⟩
  exact b_times G K_lowest B one_1 two_1
theorem k_times {d : Dc} (G : Facts d) (K_lowest : K_lowest d) {fd : FuncData} (F : FunD d.K "times" "times" (defArgs s_times) (defBody s_times) (defScope s_times) [] [] (He.ga d.K "times") fd) : K_times d := fun N sc K h =>
  fk_of (o_times G K_lowest F) G.g_times F.kp (F.bindsN fun _ _ _ _ _ _ us hl => match us, hl with | [_, _], _ => rfl) h
end K44
set_option Elab.async false
set_option linter.all false
set_option maxRecDepth 100000
namespace K44
open PySem PySem.Spec PyProof.Rows L2 L2.T

def m_compare (one_1 : (Int × Int)) (two_1 : (Int × Int)) : Option Int :=
  (mulG one_1.1 two_1.2).bind (fun left_1 => (mulG two_1.1 one_1.2).bind (fun right_1 => bIf (some (decide (left_1 < right_1))) (some (-(1 : Int))) (some (if (decide (left_1 > right_1)) = true then (1 : Int) else (0 : Int)))))
abbrev s_compare : Stmt := top 16
theorem sc_compare : FnScope ["one", "two", "left", "right"] ["one", "two"] (defScope s_compare) := ⟨rfl, rfl, rfl, by decide +kernel, rfl, by decide +kernel, by decide +kernel⟩
set_option maxHeartbeats 4000000 in
theorem b_compare {d : Dc} (G : Facts d) (B : Bs) (one_1 : (Int × Int)) (two_1 : (Int × Int)) : Sx (d.cc ["one", "two", "left", "right"] (defScope s_compare) 0) B [.sh (rP rI rI) one_1, .sh (rP rI rI) two_1, .no, .no] (defBody s_compare) (m_compare one_1 two_1) (pR (d.cc ["one", "two", "left", "right"] (defScope s_compare) 0) B (resS rI)) := by
  unfold m_compare
  refine sx_bind 2 (ex_bin0 o_mul (ex_at00 (ex_var (r := (rP rI rI)) (x := one_1) 0)) (ex_at10 (ex_var (r := (rP rI rI)) (x := two_1) 1))) (fun left_1 => ?_)
  refine sx_bind 3 (ex_bin0 o_mul (ex_at00 (ex_var (r := (rP rI rI)) (x := two_1) 1)) (ex_at10 (ex_var (r := (rP rI rI)) (x := one_1) 0))) (fun right_1 => ?_)
  refine sx_ifR (tt_cmp0 o_lt (ex_var (r := rI) (x := left_1) 2) (ex_var (r := rI) (x := right_1) 3)) ?_ ?_ fin_R
  · exact sx_ret (ex_neg0 (ex_int))
  · exact sx_ret (ex_if0 (tt_cmp0 o_gt (ex_var (r := rI) (x := left_1) 2) (ex_var (r := rI) (x := right_1) 3)) (ex_int) (ex_int))
def K_compare (d : Dc) : Prop := ∀ (N : List Str) (sc : Scope) (K : Nat), 1 ≤ K → Fk (d.cc N sc K) "compare" 2 (aC (vS (rP rI rI)) (aC (vS (rP rI rI)) aN)) (fun t => m_compare t.1 t.2.1) (resS rI)
theorem o_compare {d : Dc} (G : Facts d) {fd : FuncData} {dvs : List V} (F : FunD d.K "compare" "compare" (defArgs s_compare) (defBody s_compare) (defScope s_compare) dvs [] (He.ga d.K "compare") fd) : FnOk d.P d.w d.K d.mg d.base CX0 1 (He.ga d.K "compare") fd ["one", "two"] (spT d.K (aC (vS (rP rI rI)) (aC (vS (rP rI rI)) aN)) (fun t => m_compare t.1 t.2.1) (resS rI)) := by
  refine fn_ok (k := 0) F sc_compare (ars_cons (ars_cons ars_nil)) (fun _ => rfl) ?_
  rintro B ⟨one_1, two_1, ⟨⟩⟩
  exact b_compare G  B one_1 two_1
theorem k_compare {d : Dc} (G : Facts d) {fd : FuncData} (F : FunD d.K "compare" "compare" (defArgs s_compare) (defBody s_compare) (defScope s_compare) [] [] (He.ga d.K "compare") fd) : K_compare d := fun N sc K h =>
  fk_of (o_compare G  F) G.g_compare F.kp (F.bindsN fun _ _ _ _ _ _ us hl => match us, hl with | [_, _], _ => rfl) h
end K44
set_option Elab.async false
set_option linter.all false
set_option maxRecDepth 100000
namespace K44
open PySem PySem.Spec PyProof.Rows L2 L2.T

def m_label_marks_b1 (s_1 : (List Int)) (low_1 : (Int × Int)) : Option ((List Int)) :=
  (((b2 (b2 (atG s_1 low_1.1) (b2 (atG s_1 low_1.2) (some []) (fun x y => some (x :: y))) (fun x y => some (x :: y))) (some ()) (fun x y => some (x, y))).bind (fun t => some (srtI t.1))).bind unL2).bind (fun t_1 => (some (s_1.map (fun label_1 => (if (decide (label_1 = t_1.2)) = true then t_1.1 else label_1)))).bind (fun labels_2 => some labels_2))
def m_label_marks (count_1 : Int) (ties_1 : (List (Int × Int))) : Option (List Int) :=
  (rgG 0 (count_1 + (1 : Int))).bind (fun labels_1 => ((some ties_1).bind (fun xs => forM (m_label_marks_b1) xs labels_1)).bind (fun s_2 => some s_2))
abbrev s_label_marks : Stmt := top 18
theorem sc_label_marks : FnScope ["count", "ties", "labels", "low", "high", "first", "last", "label"] ["count", "ties"] (defScope s_label_marks) := ⟨rfl, rfl, rfl, by decide +kernel, rfl, by decide +kernel, by decide +kernel⟩
set_option maxHeartbeats 4000000 in
theorem b_label_marks {d : Dc} (G : Facts d) (B : Bs) (count_1 : Int) (ties_1 : (List (Int × Int))) : Sx (d.cc ["count", "ties", "labels", "low", "high", "first", "last", "label"] (defScope s_label_marks) 0) B [.sh rI count_1, .sh (rL (rP rI rI)) ties_1, .no, .no, .no, .no, .no, .no] (defBody s_label_marks) (m_label_marks count_1 ties_1) (pR (d.cc ["count", "ties", "labels", "low", "high", "first", "last", "label"] (defScope s_label_marks) 0) B (resS (rL rI))) := by
  unfold m_label_marks
  refine sx_bind 2 (ex_fs (ex_listRg1 (m := (some (count_1 + (1 : Int)))) G.f_list G.f_range (ex_bin0 o_add (ex_var (r := rI) (x := count_1) 0) (ex_int)))) (fun labels_1 => ?_)
  refine sx_forM (mi := some ties_1) (s0 := labels_1) (f := (m_label_marks_b1)) (fun s_1 => [.sh rI count_1, .sh (rL (rP rI rI)) ties_1, .sh (rL rI) s_1, .no, .no, .no, .no, .no]) (ii_listS (ex_var (r := (rL (rP rI rI))) (x := ties_1) 1)) (gt_pair (gt_name 3) (gt_name 4)) (.s (.s (.s (.s (.s (.s (.s (.s (.n)))))))) : Wk [.sh rI count_1, .sh (rL (rP rI rI)) ties_1, .sh (rL rI) labels_1, .no, .no, .no, .no, .no] [.sh rI count_1, .sh (rL (rP rI rI)) ties_1, .sh (rL rI) labels_1, .no, .no, .no, .no, .no]) ?_ (fun s_2 => ?_)
  · intro s_1 low_1
    unfold m_label_marks_b1
    refine sx_unpL2 (gt_name 5) (gt_name 6) (ex_fl (ex_callBF c_sorted G.f_sorted b_sorted (ea_cons (ex_fl (ex_lst (el_cons (ex_ix0 (ex_q (ex_var (r := (rL rI)) (x := s_1) 2)) (ex_var (r := rI) (x := low_1.1) 3)) (el_cons (ex_ix0 (ex_q (ex_var (r := (rL rI)) (x := s_1) 2)) (ex_var (r := rI) (x := low_1.2) 4)) (el_nil))) (ln_le (ln_cons (ln_cons ln_nil)) rfl))) (ea_nil)))) (fun t_1 => ?_)
    refine sx_lcE 2 (hq := lcM_map _ _) (mx := (some s_1)) (r := rI) (q := rI) (c := fun _ => some true) (f := fun label_1 => some (if (decide (label_1 = t_1.2)) = true then t_1.1 else label_1)) [("label", 7)] (by kernel_rfl) (ii_listS (ex_var (r := (rL rI)) (x := s_1) 2)) (gt_name 7) (fun _ => ts_nil) (fun label_1 => ex_if0 (tt_cmp0 (o_eq dI) (ex_var (r := rI) (x := label_1) 7) (ex_var (r := rI) (x := t_1.2) 6)) (ex_var (r := rI) (x := t_1.1) 5) (ex_var (r := rI) (x := label_1) 7)) (fun labels_2 => ?_)
    exact sx_nil (.s (.s (.s (.d (.d (.d (.d (.s (.n)))))))) : Wk [.sh rI count_1, .sh (rL (rP rI rI)) ties_1, .sh (rL rI) labels_2, .sh rI low_1.1, .sh rI low_1.2, .sh rI t_1.1, .sh rI t_1.2, .no] [.sh rI count_1, .sh (rL (rP rI rI)) ties_1, .sh (rL rI) labels_2, .no, .no, .no, .no, .no])
  exact sx_ret (ex_var (r := (rL rI)) (x := s_2) 2)
def K_label_marks (d : Dc) : Prop := ∀ (N : List Str) (sc : Scope) (K : Nat), 1 ≤ K → Fk (d.cc N sc K) "label_marks" 2 (aC (vS rI) (aC (vS (rL (rP rI rI))) aN)) (fun t => m_label_marks t.1 t.2.1) (resS (rL rI))
theorem o_label_marks {d : Dc} (G : Facts d) {fd : FuncData} {dvs : List V} (F : FunD d.K "label_marks" "label_marks" (defArgs s_label_marks) (defBody s_label_marks) (defScope s_label_marks) dvs [] (He.ga d.K "label_marks") fd) : FnOk d.P d.w d.K d.mg d.base CX0 1 (He.ga d.K "label_marks") fd ["count", "ties"] (spT d.K (aC (vS rI) (aC (vS (rL (rP rI rI))) aN)) (fun t => m_label_marks t.1 t.2.1) (resS (rL rI))) := by
  refine fn_ok (k := 0) F sc_label_marks (ars_cons (ars_cons ars_nil)) (fun _ => rfl) ?_
  rintro B ⟨count_1, ties_1, ⟨⟩⟩
  exact b_label_marks G  B count_1 ties_1
theorem k_label_marks {d : Dc} (G : Facts d) {fd : FuncData} (F : FunD d.K "label_marks" "label_marks" (defArgs s_label_marks) (defBody s_label_marks) (defScope s_label_marks) [] [] (He.ga d.K "label_marks") fd) : K_label_marks d := fun N sc K h =>
  fk_of (o_label_marks G  F) G.g_label_marks F.kp (F.bindsN fun _ _ _ _ _ _ us hl => match us, hl with | [_, _], _ => rfl) h
end K44
set_option Elab.async false
set_option linter.all false
set_option maxRecDepth 100000
namespace K44
open PySem PySem.Spec PyProof.Rows L2 L2.T

def m_Cart___init___b1 (axles_1 : (List (Int × Int))) (s_1 : Unit) (index_1 : (Int × (Int × Int))) : Option (Unit) :=
  bIf ((m_is_small index_1.2).map (fun c => !c)) none (bIf (bAnd (some (decide (index_1.1 > (0 : Int)))) (b2 ((b2 (atG axles_1 (index_1.1 - (1 : Int))) (b2 (some index_1.2) (some ()) (fun x y => some (x, y))) (fun x y => some (x, y))).bind (fun t => m_compare t.1 t.2.1)) (some (0 : Int)) (fun x y => some (decide (x ≥ y))))) none (some ()))
def m_Cart___init__ (axles_1 : (List (Int × Int))) (tread_1 : (Int × Int)) : Option TyCart :=
  bIf (bOr (some (!true)) ((bAnd (some (decide ((1 : Int) ≤ (axles_1.length : Int)))) (some (decide ((axles_1.length : Int) ≤ (8 : Int))))).map (fun c => !c))) none (((some (enL axles_1)).bind (fun xs => forM (m_Cart___init___b1 axles_1) xs ())).bind (fun s_2 => bIf ((m_is_weight tread_1).map (fun c => !c)) none ((some axles_1).bind (fun axles_2 => (some tread_1).bind (fun tread_2 => some (tread_2, (axles_2, ())))))))
abbrev s_Cart___init__ : Stmt := inClass (top 20) 0
theorem sc_Cart___init__ : FnScope ["self", "axles", "tread", "index", "one"] ["self", "axles", "tread"] (defScope s_Cart___init__) := ⟨rfl, rfl, rfl, by decide +kernel, rfl, by decide +kernel, by decide +kernel⟩
theorem b_Cart___init__ {d : Dc} (G : Facts d) (K_is_small : K_is_small d) (K_compare : K_compare d) (K_is_weight : K_is_weight d) (B : Bs) (p_0 : Addr) (axles_1 : (List (Int × Int))) (tread_1 : (Int × Int)) : Sx (d.cc ["self", "axles", "tread", "index", "one"] (defScope s_Cart___init__) 4) B [.ow (oIns p_0 "Cart" fN) (), .sh (rL (rP rI rI)) axles_1, .sh (rP rI rI) tread_1, .no, .no] (defBody s_Cart___init__) (m_Cart___init__ axles_1 tread_1) (pN (d.cc ["self", "axles", "tread", "index", "one"] (defScope s_Cart___init__) 4) B fun y => .ow (oIns p_0 "Cart" fd_Cart) y :: List.replicate 4 .no) := by
  replace K_is_small := K_is_small ["self", "axles", "tread", "index", "one"] (defScope s_Cart___init__) 4 (by decide)
  replace K_compare := K_compare ["self", "axles", "tread", "index", "one"] (defScope s_Cart___init__) 4 (by decide)
  replace K_is_weight := K_is_weight ["self", "axles", "tread", "index", "one"] (defScope s_Cart___init__) 4 (by decide)
  unfold m_Cart___init__
  refine sx_ifN (tt_w (tw_or (tt_not0 (tt_val (ex_isi2 (g := fun _ => true) (ex_var (r := (rL (rP rI rI))) (x := axles_1) 1) (cv_ty G.f_list b_list) (cv_ty G.f_tuple b_tuple) tyL (fun _ => by first | rfl | decide +kernel) G.f_isinstance))) (tw_or1 (tt_not (tt_chain o_le o_le (ex_int) (ex_callB0 c_len G.f_len b_len (ea_cons0 (ex_q (ex_var (r := (rL (rP rI rI))) (x := axles_1) 1)) (ea_nil))) (ex_int)))))) ?_
  refine sx_forM (mi := some (enL axles_1)) (s0 := ()) (f := (m_Cart___init___b1 axles_1)) (fun s_1 => [.ow (oIns p_0 "Cart" fN) (), .sh (rL (rP rI rI)) axles_1, .sh (rP rI rI) tread_1, .no, .no]) (ii_enum (m := some axles_1) G.f_enumerate (ex_var (r := (rL (rP rI rI))) (x := axles_1) 1)) (gt_pair (gt_name 3) (gt_name 4)) (.s (.s (.s (.s (.s (.n))))) : Wk [.ow (oIns p_0 "Cart" fN) (), .sh (rL (rP rI rI)) axles_1, .sh (rP rI rI) tread_1, .no, .no] [.ow (oIns p_0 "Cart" fN) (), .sh (rL (rP rI rI)) axles_1, .sh (rP rI rI) tread_1, .no, .no]) ?_ (fun s_2 => ?_)
  · intro s_1 index_1
    unfold m_Cart___init___b1
    refine sx_ifN (tt_not (tt_val (ex_call0 K_is_small (ea_cons0 (ex_var (r := (rP rI rI)) (x := index_1.2) 4) (ea_nil)) (alS (fun _ _ _ _ _ => al0))))) ?_
    refine sx_ifE (tt_w (tw_and (tt_cmp0 o_gt (ex_var (r := rI) (x := index_1.1) 3) (ex_int)) (tw_and1 (tt_cmp o_ge (ex_call K_compare (ea_cons (ex_ix0 (ex_q (ex_var (r := (rL (rP rI rI))) (x := axles_1) 1)) (ex_bin0 o_sub (ex_var (r := rI) (x := index_1.1) 3) (ex_int))) (ea_cons (ex_var (r := (rP rI rI)) (x := index_1.2) 4) (ea_nil))) (alS (alS (fun _ _ _ _ _ => al0)))) (ex_int))))) ?_ ?_
    · exact sx_none
    · exact sx_nil (.s (.s (.s (.d (.d (.n))))) : Wk [.ow (oIns p_0 "Cart" fN) (), .sh (rL (rP rI rI)) axles_1, .sh (rP rI rI) tread_1, .sh rI index_1.1, .sh (rP rI rI) index_1.2] [.ow (oIns p_0 "Cart" fN) (), .sh (rL (rP rI rI)) axles_1, .sh (rP rI rI) tread_1, .no, .no])
  refine sx_ifN (tt_not (tt_val (ex_call0 K_is_weight (ea_cons0 (ex_var (r := (rP rI rI)) (x := tread_1) 2) (ea_nil)) (alS (fun _ _ _ _ _ => al0))))) ?_
  refine sx_fld (p := p_0) (d := fN) (t := ()) 0 (ex_callT0 c_tuple G.f_tuple b_tuple (ea_cons0 (ex_q (ex_var (r := (rL (rP rI rI))) (x := axles_1) 1)) (ea_nil))) G.cl_Cart G.na_Cart_axles (fun axles_2 => ?_) (by decide) (by decide)
  refine sx_fld (p := p_0) (d := (fC "axles" (rT (rP rI rI)) fN)) (t := (axles_2, ())) 0 (ex_var (r := (rP rI rI)) (x := tread_1) 2) G.cl_Cart G.na_Cart_tread (fun tread_2 => ?_) (by decide) (by decide)
  exact sx_nil (.s (.d (.d (.s (.s (.n))))) : Wk [.ow (oIns p_0 "Cart" (fC "tread" (rP rI rI) (fC "axles" (rT (rP rI rI)) fN))) (tread_2, (axles_2, ())), .sh (rL (rP rI rI)) axles_1, .sh (rP rI rI) tread_1, .no, .no] [.ow (oIns p_0 "Cart" (fC "tread" (rP rI rI) (fC "axles" (rT (rP rI rI)) fN))) (tread_2, (axles_2, ())), .no, .no, .no, .no])
def K_Cart (d : Dc) : Prop := ∀ (N : List Str) (sc : Scope) (K : Nat), 6 ≤ K → Fi (d.cc N sc K) "Cart" 2 (aC (vS (rL (rP rI rI))) (aC (vS (rP rI rI)) aN)) (fun t => m_Cart___init__ t.1 t.2.1) fd_Cart
theorem k_Cart {d : Dc} (G : Facts d) (K_is_small : K_is_small d) (K_compare : K_compare d) (K_is_weight : K_is_weight d) {fd : FuncData} {dvs : List V} (F : FunD d.K "__init__" "Cart.__init__" (defArgs s_Cart___init__) (defBody s_Cart___init__) (defScope s_Cart___init__) dvs [] (He.ma d.K (He.ga d.K "Cart") "__init__") fd) (hb : Binds d.K fd ["self", "axles", "tread"] []) : K_Cart d := by
  intro N sc K h
  refine fi_of (init_ok (k := 4) (tl := fun _ => List.replicate 4 .no) F sc_Cart___init__ (ars_cons (ars_cons ars_nil)) (fun _ => rfl) ?_) G.g_Cart G.mk_Cart hb h
  rintro B p ⟨axles_1, tread_1, ⟨⟩⟩
  exact b_Cart___init__ G K_is_small K_compare K_is_weight B p axles_1 tread_1
end K44
set_option Elab.async false
set_option linter.all false
set_option maxRecDepth 100000
namespace K44
open PySem PySem.Spec PyProof.Rows L2 L2.T

def m_lengths_of_stop (cart_1 : (TyCart)) (low_1 : Int) (high_1 : Int) : Option (Option ((Int × Int) × (Option (Int × Int)))) :=
  (m_times ((2 : Int), (1 : Int)) cart_1.1).bind (fun wide_1 => bIf (bAnd (some (decide (low_1 > (0 : Int)))) (b2 ((b2 ((b2 (atG cart_1.2.1 low_1) (b2 (atG cart_1.2.1 (low_1 - (1 : Int))) (some ()) (fun x y => some (x, y))) (fun x y => some (x, y))).bind (fun t => m_minus t.1 t.2.1)) (b2 (some wide_1) (some ()) (fun x y => some (x, y))) (fun x y => some (x, y))).bind (fun t => m_compare t.1 t.2.1)) (some (0 : Int)) (fun x y => some (decide (x ≤ y))))) (some none) (bIf (bAnd (some (decide (high_1 < (cart_1.2.1.length : Int)))) (b2 ((b2 ((b2 (atG cart_1.2.1 high_1) (b2 (atG cart_1.2.1 (high_1 - (1 : Int))) (some ()) (fun x y => some (x, y))) (fun x y => some (x, y))).bind (fun t => m_minus t.1 t.2.1)) (b2 (some wide_1) (some ()) (fun x y => some (x, y))) (fun x y => some (x, y))).bind (fun t => m_compare t.1 t.2.1)) (some (0 : Int)) (fun x y => some (decide (x ≤ y))))) (some none) (((b2 ((b2 (atG cart_1.2.1 (high_1 - (1 : Int))) (b2 (atG cart_1.2.1 low_1) (some ()) (fun x y => some (x, y))) (fun x y => some (x, y))).bind (fun t => m_minus t.1 t.2.1)) (b2 (some wide_1) (some ()) (fun x y => some (x, y))) (fun x y => some (x, y))).bind (fun t => m_plus t.1 t.2.1)).bind (fun first_1 => bIf (bOr (some (decide (low_1 = (0 : Int)))) (some (decide (high_1 = (cart_1.2.1.length : Int))))) (some (some (first_1, none))) (((b2 (some first_1) (b2 (((b2 ((b2 (atG cart_1.2.1 high_1) (b2 (atG cart_1.2.1 (low_1 - (1 : Int))) (some ()) (fun x y => some (x, y))) (fun x y => some (x, y))).bind (fun t => m_minus t.1 t.2.1)) (b2 (some wide_1) (some ()) (fun x y => some (x, y))) (fun x y => some (x, y))).bind (fun t => m_minus t.1 t.2.1)).map some) (some ()) (fun x y => some (x, y))) (fun x y => some (x, y))).map (fun t => (t.1, t.2.1))).map some)))))
abbrev s_lengths_of_stop : Stmt := top 21
theorem sc_lengths_of_stop : FnScope ["cart", "low", "high", "axles", "wide", "first"] ["cart", "low", "high"] (defScope s_lengths_of_stop) := ⟨rfl, rfl, rfl, by decide +kernel, rfl, by decide +kernel, by decide +kernel⟩
set_option maxHeartbeats 4000000 in
theorem b_lengths_of_stop {d : Dc} (G : Facts d) (K_times : K_times d) (K_minus : K_minus d) (K_compare : K_compare d) (K_plus : K_plus d) (B : Bs) (cart_1 : (TyCart)) (low_1 : Int) (high_1 : Int) : Sx (d.cc ["cart", "low", "high", "axles", "wide", "first"] (defScope s_lengths_of_stop) 2) B [.sh rCart cart_1, .sh rI low_1, .sh rI high_1, .no, .no, .no] (defBody s_lengths_of_stop) (m_lengths_of_stop cart_1 low_1 high_1) (pR (d.cc ["cart", "low", "high", "axles", "wide", "first"] (defScope s_lengths_of_stop) 2) B (resS (rO (rP (rP rI rI) (rO (rP rI rI)))))) := by
  replace K_times := K_times ["cart", "low", "high", "axles", "wide", "first"] (defScope s_lengths_of_stop) 2 (by decide)
  replace K_minus := K_minus ["cart", "low", "high", "axles", "wide", "first"] (defScope s_lengths_of_stop) 2 (by decide)
  replace K_compare := K_compare ["cart", "low", "high", "axles", "wide", "first"] (defScope s_lengths_of_stop) 2 (by decide)
  replace K_plus := K_plus ["cart", "low", "high", "axles", "wide", "first"] (defScope s_lengths_of_stop) 2 (by decide)
  unfold m_lengths_of_stop
  refine sx_let (x := cart_1.2.1) 3 (ex_fld0 (fat_S fat_0) G.cl_Cart G.na_Cart_axles (ex_var (r := rCart) (x := cart_1) 0)) ?_
  refine sx_bind 4 (ex_call0 K_times (ea_cons0 (ex_tup20 (ea_cons0 (ex_int) (ea_cons0 (ex_int) (ea_nil)))) (ea_cons0 (ex_fld0 fat_0 G.cl_Cart G.na_Cart_tread (ex_var (r := rCart) (x := cart_1) 0)) (ea_nil))) (alS (alS (fun _ _ _ _ _ => al0)))) (fun wide_1 => ?_)
  refine sx_ifR (tt_w (tw_and (tt_cmp0 o_gt (ex_var (r := rI) (x := low_1) 1) (ex_int)) (tw_and1 (tt_cmp o_le (ex_call K_compare (ea_cons (ex_call K_minus (ea_cons (ex_ix0 (ex_qT (ex_var (r := (rT (rP rI rI))) (x := cart_1.2.1) 3)) (ex_var (r := rI) (x := low_1) 1)) (ea_cons (ex_ix0 (ex_qT (ex_var (r := (rT (rP rI rI))) (x := cart_1.2.1) 3)) (ex_bin0 o_sub (ex_var (r := rI) (x := low_1) 1) (ex_int))) (ea_nil))) (alS (alS (fun _ _ _ _ _ => al0)))) (ea_cons (ex_var (r := (rP rI rI)) (x := wide_1) 4) (ea_nil))) (alS (alS (fun _ _ _ _ _ => al0)))) (ex_int))))) ?_ ?_ fin_R
  · exact sx_ret (ex_non (r := (rP (rP rI rI) (rO (rP rI rI)))))
  · refine sx_ifR (tt_w (tw_and (tt_cmp0 o_lt (ex_var (r := rI) (x := high_1) 2) (ex_callB0 c_len G.f_len b_len (ea_cons0 (ex_qT (ex_var (r := (rT (rP rI rI))) (x := cart_1.2.1) 3)) (ea_nil)))) (tw_and1 (tt_cmp o_le (ex_call K_compare (ea_cons (ex_call K_minus (ea_cons (ex_ix0 (ex_qT (ex_var (r := (rT (rP rI rI))) (x := cart_1.2.1) 3)) (ex_var (r := rI) (x := high_1) 2)) (ea_cons (ex_ix0 (ex_qT (ex_var (r := (rT (rP rI rI))) (x := cart_1.2.1) 3)) (ex_bin0 o_sub (ex_var (r := rI) (x := high_1) 2) (ex_int))) (ea_nil))) (alS (alS (fun _ _ _ _ _ => al0)))) (ea_cons (ex_var (r := (rP rI rI)) (x := wide_1) 4) (ea_nil))) (alS (alS (fun _ _ _ _ _ => al0)))) (ex_int))))) ?_ ?_ fin_R
    · exact sx_ret (ex_non (r := (rP (rP rI rI) (rO (rP rI rI)))))
    · refine sx_bind 5 (ex_call K_plus (ea_cons (ex_call K_minus (ea_cons (ex_ix0 (ex_qT (ex_var (r := (rT (rP rI rI))) (x := cart_1.2.1) 3)) (ex_bin0 o_sub (ex_var (r := rI) (x := high_1) 2) (ex_int))) (ea_cons (ex_ix0 (ex_qT (ex_var (r := (rT (rP rI rI))) (x := cart_1.2.1) 3)) (ex_var (r := rI) (x := low_1) 1)) (ea_nil))) (alS (alS (fun _ _ _ _ _ => al0)))) (ea_cons (ex_var (r := (rP rI rI)) (x := wide_1) 4) (ea_nil))) (alS (alS (fun _ _ _ _ _ => al0)))) (fun first_1 => ?_)
      refine sx_ifR (tt_w (tw_or (tt_cmp0 (o_eq dI) (ex_var (r := rI) (x := low_1) 1) (ex_int)) (tw_or1 (tt_cmp0 (o_eq dI) (ex_var (r := rI) (x := high_1) 2) (ex_callB0 c_len G.f_len b_len (ea_cons0 (ex_qT (ex_var (r := (rT (rP rI rI))) (x := cart_1.2.1) 3)) (ea_nil))))))) ?_ ?_ fin_R
      · exact sx_ret (ex_some nnP (ex_tup20 (ea_cons0 (ex_var (r := (rP rI rI)) (x := first_1) 5) (ea_cons0 (ex_non (r := (rP rI rI))) (ea_nil)))))
      · exact sx_ret (ex_somep nnP (ex_tup2 (ea_cons (ex_var (r := (rP rI rI)) (x := first_1) 5) (ea_cons (ex_somep nnP (ex_call K_minus (ea_cons (ex_call K_minus (ea_cons (ex_ix0 (ex_qT (ex_var (r := (rT (rP rI rI))) (x := cart_1.2.1) 3)) (ex_var (r := rI) (x := high_1) 2)) (ea_cons (ex_ix0 (ex_qT (ex_var (r := (rT (rP rI rI))) (x := cart_1.2.1) 3)) (ex_bin0 o_sub (ex_var (r := rI) (x := low_1) 1) (ex_int))) (ea_nil))) (alS (alS (fun _ _ _ _ _ => al0)))) (ea_cons (ex_var (r := (rP rI rI)) (x := wide_1) 4) (ea_nil))) (alS (alS (fun _ _ _ _ _ => al0))))) (ea_nil)))))
def K_lengths_of_stop (d : Dc) : Prop := ∀ (N : List Str) (sc : Scope) (K : Nat), 3 ≤ K → Fk (d.cc N sc K) "lengths_of_stop" 3 (aC (vS rCart) (aC (vS rI) (aC (vS rI) aN))) (fun t => m_lengths_of_stop t.1 t.2.1 t.2.2.1) (resS (rO (rP (rP rI rI) (rO (rP rI rI)))))
theorem o_lengths_of_stop {d : Dc} (G : Facts d) (K_times : K_times d) (K_minus : K_minus d) (K_compare : K_compare d) (K_plus : K_plus d) {fd : FuncData} {dvs : List V} (F : FunD d.K "lengths_of_stop" "lengths_of_stop" (defArgs s_lengths_of_stop) (defBody s_lengths_of_stop) (defScope s_lengths_of_stop) dvs [] (He.ga d.K "lengths_of_stop") fd) : FnOk d.P d.w d.K d.mg d.base CX0 3 (He.ga d.K "lengths_of_stop") fd ["cart", "low", "high"] (spT d.K (aC (vS rCart) (aC (vS rI) (aC (vS rI) aN))) (fun t => m_lengths_of_stop t.1 t.2.1 t.2.2.1) (resS (rO (rP (rP rI rI) (rO (rP rI rI)))))) := by
  refine fn_ok (k := 2) F sc_lengths_of_stop (ars_cons (ars_cons (ars_cons ars_nil))) (fun _ => rfl) ?_
  rintro B ⟨cart_1, low_1, high_1, ⟨⟩⟩
  exact b_lengths_of_stop G K_times K_minus K_compare K_plus B cart_1 low_1 high_1
theorem k_lengths_of_stop {d : Dc} (G : Facts d) (K_times : K_times d) (K_minus : K_minus d) (K_compare : K_compare d) (K_plus : K_plus d) {fd : FuncData} (F : FunD d.K "lengths_of_stop" "lengths_of_stop" (defArgs s_lengths_of_stop) (defBody s_lengths_of_stop) (defScope s_lengths_of_stop) [] [] (He.ga d.K "lengths_of_stop") fd) : K_lengths_of_stop d := fun N sc K h =>
  fk_of (o_lengths_of_stop G K_times K_minus K_compare K_plus F) G.g_lengths_of_stop F.kp (F.bindsN fun _ _ _ _ _ _ us hl => match us, hl with | [_, _, _], _ => rfl) h
end K44
set_option Elab.async false
set_option linter.all false
set_option maxRecDepth 100000
namespace K44
open PySem PySem.Spec PyProof.Rows L2 L2.T

def m_ranges_of_stops_b1 (cart_1 : (TyCart)) (low_1 : Int) (s_2 : (List (Int × Int × (Int × Int) × (Option (Int × Int))))) (high_1 : Int) : Option ((List (Int × Int × (Int × Int) × (Option (Int × Int))))) :=
  (m_lengths_of_stop cart_1 low_1 high_1).bind (fun ends_1 => bIf (some ends_1.isSome) ((((b2 (some low_1) (b2 (some high_1) (b2 (ends_1.map (fun x => x.1)) (b2 (ends_1.map (fun x => x.2)) (some ()) (fun x y => some (x, y))) (fun x y => some (x, y))) (fun x y => some (x, y))) (fun x y => some (x, y))).map (fun t => (t.1, t.2.1, t.2.2.1, t.2.2.2.1))).bind (fun y => appG s_2 y)).bind (fun found_2 => some found_2)) (some s_2))
def m_ranges_of_stops_b2 (cart_1 : (TyCart)) (s_1 : (List (Int × Int × (Int × Int) × (Option (Int × Int))))) (low_1 : Int) : Option ((List (Int × Int × (Int × Int) × (Option (Int × Int))))) :=
  ((b2 (some (low_1 + (1 : Int))) (some ((cart_1.2.1.length : Int) + (1 : Int))) rgG).bind (fun xs => forM (m_ranges_of_stops_b1 cart_1 low_1) xs s_1)).bind (fun s_3 => some s_3)
def m_ranges_of_stops (cart_1 : (TyCart)) : Option (List (Int × Int × (Int × Int) × (Option (Int × Int)))) :=
  (some ([])).bind (fun found_1 => ((rgG 0 (cart_1.2.1.length : Int)).bind (fun xs => forM (m_ranges_of_stops_b2 cart_1) xs found_1)).bind (fun s_4 => some s_4))
abbrev s_ranges_of_stops : Stmt := top 22
theorem sc_ranges_of_stops : FnScope ["cart", "found", "low", "high", "ends"] ["cart"] (defScope s_ranges_of_stops) := ⟨rfl, rfl, rfl, by decide +kernel, rfl, by decide +kernel, by decide +kernel⟩
set_option maxHeartbeats 4000000 in
theorem b_ranges_of_stops {d : Dc} (G : Facts d) (K_lengths_of_stop : K_lengths_of_stop d) (B : Bs) (cart_1 : (TyCart)) : Sx (d.cc ["cart", "found", "low", "high", "ends"] (defScope s_ranges_of_stops) 3) B [.sh rCart cart_1, .no, .no, .no, .no] (defBody s_ranges_of_stops) (m_ranges_of_stops cart_1) (pR (d.cc ["cart", "found", "low", "high", "ends"] (defScope s_ranges_of_stops) 3) B (resF (oL (rP4 rI rI (rP rI rI) (rO (rP rI rI)))))) := by
  replace K_lengths_of_stop := K_lengths_of_stop ["cart", "found", "low", "high", "ends"] (defScope s_ranges_of_stops) 3 (by decide)
  unfold m_ranges_of_stops
  refine sx_bindF 1 (ex_lst0 (r := (rP4 rI rI (rP rI rI) (rO (rP rI rI)))) el_nil) (fun found_1 => ?_)
  refine sx_forM (mi := rgG 0 (cart_1.2.1.length : Int)) (s0 := found_1) (f := (m_ranges_of_stops_b2 cart_1)) (fun s_1 => [.sh rCart cart_1, .ow (oL (rP4 rI rI (rP rI rI) (rO (rP rI rI)))) s_1, .no, .no, .no]) (ii_rng1 (m := (some (cart_1.2.1.length : Int))) G.f_range (ex_callB0 c_len G.f_len b_len (ea_cons0 (ex_qT (ex_fld0 (fat_S fat_0) G.cl_Cart G.na_Cart_axles (ex_var (r := rCart) (x := cart_1) 0))) (ea_nil)))) (gt_name 2) (.s (.s (.s (.s (.s (.n))))) : Wk [.sh rCart cart_1, .ow (oL (rP4 rI rI (rP rI rI) (rO (rP rI rI)))) found_1, .no, .no, .no] [.sh rCart cart_1, .ow (oL (rP4 rI rI (rP rI rI) (rO (rP rI rI)))) found_1, .no, .no, .no]) ?_ (fun s_4 => ?_)
  · intro s_1 low_1
    unfold m_ranges_of_stops_b2
    refine sx_forM (mi := b2 (some (low_1 + (1 : Int))) (some ((cart_1.2.1.length : Int) + (1 : Int))) rgG) (s0 := s_1) (f := (m_ranges_of_stops_b1 cart_1 low_1)) (fun s_2 => [.sh rCart cart_1, .ow (oL (rP4 rI rI (rP rI rI) (rO (rP rI rI)))) s_2, .sh rI low_1, .no, .no]) (ii_rng2 G.f_range (ex_bin0 o_add (ex_var (r := rI) (x := low_1) 2) (ex_int)) (ex_bin0 o_add (ex_callB0 c_len G.f_len b_len (ea_cons0 (ex_qT (ex_fld0 (fat_S fat_0) G.cl_Cart G.na_Cart_axles (ex_var (r := rCart) (x := cart_1) 0))) (ea_nil))) (ex_int))) (gt_name 3) (.s (.s (.s (.s (.s (.n))))) : Wk [.sh rCart cart_1, .ow (oL (rP4 rI rI (rP rI rI) (rO (rP rI rI)))) s_1, .sh rI low_1, .no, .no] [.sh rCart cart_1, .ow (oL (rP4 rI rI (rP rI rI) (rO (rP rI rI)))) s_1, .sh rI low_1, .no, .no]) ?_ (fun s_3 => ?_)
    · intro s_2 high_1
      unfold m_ranges_of_stops_b1
      refine sx_bind 4 (ex_call0 K_lengths_of_stop (ea_cons0 (ex_var (r := rCart) (x := cart_1) 0) (ea_cons0 (ex_var (r := rI) (x := low_1) 2) (ea_cons0 (ex_var (r := rI) (x := high_1) 3) (ea_nil)))) (alS (alS (alS (fun _ _ _ _ _ => al0))))) (fun ends_1 => ?_)
      refine sx_ifE (tt_cmp0 o_notN (ex_var (r := (rO (rP (rP rI rI) (rO (rP rI rI))))) (x := ends_1) 4) ex_unit) ?_ ?_
      · refine sx_app (xs := s_2) 1 (ex_tup4 (ea_cons (ex_var (r := rI) (x := low_1) 2) (ea_cons (ex_var (r := rI) (x := high_1) 3) (ea_cons (ex_at0 (ex_get (ex_var (r := (rO (rP (rP rI rI) (rO (rP rI rI))))) (x := ends_1) 4))) (ea_cons (ex_at1 (ex_get (ex_var (r := (rO (rP (rP rI rI) (rO (rP rI rI))))) (x := ends_1) 4))) (ea_nil)))))) (fun found_2 => ?_)
        exact sx_nil (.s (.s (.s (.d (.d (.n))))) : Wk [.sh rCart cart_1, .ow (oL (rP4 rI rI (rP rI rI) (rO (rP rI rI)))) found_2, .sh rI low_1, .sh rI high_1, .sh (rO (rP (rP rI rI) (rO (rP rI rI)))) ends_1] [.sh rCart cart_1, .ow (oL (rP4 rI rI (rP rI rI) (rO (rP rI rI)))) found_2, .sh rI low_1, .no, .no])
      · exact sx_nil (.s (.s (.s (.d (.d (.n))))) : Wk [.sh rCart cart_1, .ow (oL (rP4 rI rI (rP rI rI) (rO (rP rI rI)))) s_2, .sh rI low_1, .sh rI high_1, .sh (rO (rP (rP rI rI) (rO (rP rI rI)))) ends_1] [.sh rCart cart_1, .ow (oL (rP4 rI rI (rP rI rI) (rO (rP rI rI)))) s_2, .sh rI low_1, .no, .no])
    exact sx_nil (.s (.s (.d (.s (.s (.n))))) : Wk [.sh rCart cart_1, .ow (oL (rP4 rI rI (rP rI rI) (rO (rP rI rI)))) s_3, .sh rI low_1, .no, .no] [.sh rCart cart_1, .ow (oL (rP4 rI rI (rP rI rI) (rO (rP rI rI)))) s_3, .no, .no, .no])
  exact sx_retO 1
def K_ranges_of_stops (d : Dc) : Prop := ∀ (N : List Str) (sc : Scope) (K : Nat), 4 ≤ K → Fk (d.cc N sc K) "ranges_of_stops" 1 (aC (vS rCart) aN) (fun t => m_ranges_of_stops t.1) (resF (oL (rP4 rI rI (rP rI rI) (rO (rP rI rI)))))
theorem o_ranges_of_stops {d : Dc} (G : Facts d) (K_lengths_of_stop : K_lengths_of_stop d) {fd : FuncData} {dvs : List V} (F : FunD d.K "ranges_of_stops" "ranges_of_stops" (defArgs s_ranges_of_stops) (defBody s_ranges_of_stops) (defScope s_ranges_of_stops) dvs [] (He.ga d.K "ranges_of_stops") fd) : FnOk d.P d.w d.K d.mg d.base CX0 4 (He.ga d.K "ranges_of_stops") fd ["cart"] (spT d.K (aC (vS rCart) aN) (fun t => m_ranges_of_stops t.1) (resF (oL (rP4 rI rI (rP rI rI) (rO (rP rI rI)))))) := by
  refine fn_ok (k := 3) F sc_ranges_of_stops (ars_cons ars_nil) (fun _ => rfl) ?_
  rintro B ⟨cart_1, ⟨⟩⟩
  exact b_ranges_of_stops G K_lengths_of_stop B cart_1
theorem k_ranges_of_stops {d : Dc} (G : Facts d) (K_lengths_of_stop : K_lengths_of_stop d) {fd : FuncData} (F : FunD d.K "ranges_of_stops" "ranges_of_stops" (defArgs s_ranges_of_stops) (defBody s_ranges_of_stops) (defScope s_ranges_of_stops) [] [] (He.ga d.K "ranges_of_stops") fd) : K_ranges_of_stops d := fun N sc K h =>
  fk_of (o_ranges_of_stops G K_lengths_of_stop F) G.g_ranges_of_stops F.kp (F.bindsN fun _ _ _ _ _ _ us hl => match us, hl with | [_], _ => rfl) h
end K44
set_option Elab.async false
set_option linter.all false
set_option maxRecDepth 100000
namespace K44
open PySem PySem.Spec PyProof.Rows L2 L2.T

def m_is_length_within (length_1 : (Int × Int)) (first_1 : (Int × Int)) (last_1 : (Option (Int × Int))) : Option Bool :=
  bAnd (b2 (m_compare first_1 length_1) (some (0 : Int)) (fun x y => some (decide (x ≤ y)))) (bOr (some last_1.isNone) (b2 ((b2 (some length_1) (b2 last_1 (some ()) (fun x y => some (x, y))) (fun x y => some (x, y))).bind (fun t => m_compare t.1 t.2.1)) (some (0 : Int)) (fun x y => some (decide (x < y)))))
abbrev s_is_length_within : Stmt := top 23
theorem sc_is_length_within : FnScope ["length", "first", "last"] ["length", "first", "last"] (defScope s_is_length_within) := ⟨rfl, rfl, rfl, by decide +kernel, rfl, by decide +kernel, by decide +kernel⟩
set_option maxHeartbeats 4000000 in
theorem b_is_length_within {d : Dc} (G : Facts d) (K_compare : K_compare d) (B : Bs) (length_1 : (Int × Int)) (first_1 : (Int × Int)) (last_1 : (Option (Int × Int))) : Sx (d.cc ["length", "first", "last"] (defScope s_is_length_within) 1) B [.sh (rP rI rI) length_1, .sh (rP rI rI) first_1, .sh (rO (rP rI rI)) last_1] (defBody s_is_length_within) (m_is_length_within length_1 first_1 last_1) (pR (d.cc ["length", "first", "last"] (defScope s_is_length_within) 1) B (resS rB)) := by
  replace K_compare := K_compare ["length", "first", "last"] (defScope s_is_length_within) 1 (by decide)
  unfold m_is_length_within
  exact sx_ret (ex_and (ex_cmp o_le (ex_call0 K_compare (ea_cons0 (ex_var (r := (rP rI rI)) (x := first_1) 1) (ea_cons0 (ex_var (r := (rP rI rI)) (x := length_1) 0) (ea_nil))) (alS (alS (fun _ _ _ _ _ => al0)))) (ex_int)) (ex_one (ex_or (ex_cmp0 o_isN (ex_var (r := (rO (rP rI rI))) (x := last_1) 2) ex_unit) (ex_one (ex_cmp o_lt (ex_call K_compare (ea_cons (ex_var (r := (rP rI rI)) (x := length_1) 0) (ea_cons (ex_get (ex_var (r := (rO (rP rI rI))) (x := last_1) 2)) (ea_nil))) (alS (alS (fun _ _ _ _ _ => al0)))) (ex_int))))))
def K_is_length_within (d : Dc) : Prop := ∀ (N : List Str) (sc : Scope) (K : Nat), 2 ≤ K → Fk (d.cc N sc K) "is_length_within" 3 (aC (vS (rP rI rI)) (aC (vS (rP rI rI)) (aC (vS (rO (rP rI rI))) aN))) (fun t => m_is_length_within t.1 t.2.1 t.2.2.1) (resS rB)
theorem o_is_length_within {d : Dc} (G : Facts d) (K_compare : K_compare d) {fd : FuncData} {dvs : List V} (F : FunD d.K "is_length_within" "is_length_within" (defArgs s_is_length_within) (defBody s_is_length_within) (defScope s_is_length_within) dvs [] (He.ga d.K "is_length_within") fd) : FnOk d.P d.w d.K d.mg d.base CX0 2 (He.ga d.K "is_length_within") fd ["length", "first", "last"] (spT d.K (aC (vS (rP rI rI)) (aC (vS (rP rI rI)) (aC (vS (rO (rP rI rI))) aN))) (fun t => m_is_length_within t.1 t.2.1 t.2.2.1) (resS rB)) := by
  refine fn_ok (k := 1) F sc_is_length_within (ars_cons (ars_cons (ars_cons ars_nil))) (fun _ => rfl) ?_
  rintro B ⟨length_1, first_1, last_1, ⟨⟩⟩
  exact b_is_length_within G K_compare B length_1 first_1 last_1
theorem k_is_length_within {d : Dc} (G : Facts d) (K_compare : K_compare d) {fd : FuncData} (F : FunD d.K "is_length_within" "is_length_within" (defArgs s_is_length_within) (defBody s_is_length_within) (defScope s_is_length_within) [] [] (He.ga d.K "is_length_within") fd) : K_is_length_within d := fun N sc K h =>
  fk_of (o_is_length_within G K_compare F) G.g_is_length_within F.kp (F.bindsN fun _ _ _ _ _ _ us hl => match us, hl with | [_, _, _], _ => rfl) h
end K44
set_option Elab.async false
set_option linter.all false
set_option maxRecDepth 100000
namespace K44
open PySem PySem.Spec PyProof.Rows L2 L2.T

def m_critical_lengths_b1 (s_2 : (List (Int × Int))) (one_1 : (Option (Int × Int))) : Option ((List (Int × Int))) :=
  bIf (bAnd (some one_1.isSome) (b2 ((b2 one_1 (b2 (some ((0 : Int), (1 : Int))) (some ()) (fun x y => some (x, y))) (fun x y => some (x, y))).bind (fun t => m_compare t.1 t.2.1)) (some (0 : Int)) (fun x y => some (decide (x > y))))) (((b2 (lcM (fun other_1 => b2 ((b2 (some other_1) (b2 one_1 (some ()) (fun x y => some (x, y))) (fun x y => some (x, y))).bind (fun t => m_compare t.1 t.2.1)) (some (0 : Int)) (fun x y => some (decide (x < y)))) (fun other_1 => some other_1) s_2) (some ()) (fun x y => some (x, y))).bind (fun t => some ((t.1.length : Int)))).bind (fun at_1 => bIf (bOr (some (decide (at_1 = (s_2.length : Int)))) (b2 ((atG s_2 at_1).map some) (some one_1) (fun x y => some (!decide (x = y))))) ((b2 (some at_1) one_1 (fun j y => insG s_2 j y)).bind (fun found_2 => some found_2)) (some s_2))) (some s_2)
def m_critical_lengths_b2 (s_1 : (List (Int × Int))) (row_1 : (Int × Int × (Int × Int) × (Option (Int × Int)))) : Option ((List (Int × Int))) :=
  ((some ([some row_1.2.2.1, row_1.2.2.2])).bind (fun xs => forM (m_critical_lengths_b1) xs s_1)).bind (fun s_3 => some s_3)
def m_critical_lengths (ranges_1 : (List (Int × Int × (Int × Int) × (Option (Int × Int))))) : Option (List (Int × Int)) :=
  (some ([((0 : Int), (1 : Int))])).bind (fun found_1 => ((some ranges_1).bind (fun xs => forM (m_critical_lengths_b2) xs found_1)).bind (fun s_4 => some s_4))
abbrev s_critical_lengths : Stmt := top 24
theorem sc_critical_lengths : FnScope ["ranges", "found", "row", "one", "at", "other"] ["ranges"] (defScope s_critical_lengths) := ⟨rfl, rfl, rfl, by decide +kernel, rfl, by decide +kernel, by decide +kernel⟩
set_option maxHeartbeats 4000000 in
theorem b_critical_lengths {d : Dc} (G : Facts d) (K_compare : K_compare d) (B : Bs) (ranges_1 : (List (Int × Int × (Int × Int) × (Option (Int × Int))))) : Sx (d.cc ["ranges", "found", "row", "one", "at", "other"] (defScope s_critical_lengths) 1) B [.sh (rL (rP4 rI rI (rP rI rI) (rO (rP rI rI)))) ranges_1, .no, .no, .no, .no, .no] (defBody s_critical_lengths) (m_critical_lengths ranges_1) (pR (d.cc ["ranges", "found", "row", "one", "at", "other"] (defScope s_critical_lengths) 1) B (resF (oL (rP rI rI)))) := by
  replace K_compare := K_compare ["ranges", "found", "row", "one", "at", "other"] (defScope s_critical_lengths) 1 (by decide)
  unfold m_critical_lengths
  refine sx_bindF 1 (ex_lst0 (el_cons0 (G.c_ZERO) (el_nil))) (fun found_1 => ?_)
  refine sx_forM (mi := some ranges_1) (s0 := found_1) (f := (m_critical_lengths_b2)) (fun s_1 => [.sh (rL (rP4 rI rI (rP rI rI) (rO (rP rI rI)))) ranges_1, .ow (oL (rP rI rI)) s_1, .no, .no, .no, .no]) (ii_listS (ex_var (r := (rL (rP4 rI rI (rP rI rI) (rO (rP rI rI))))) (x := ranges_1) 0)) (gt_name 2) (.s (.s (.s (.s (.s (.s (.n)))))) : Wk [.sh (rL (rP4 rI rI (rP rI rI) (rO (rP rI rI)))) ranges_1, .ow (oL (rP rI rI)) found_1, .no, .no, .no, .no] [.sh (rL (rP4 rI rI (rP rI rI) (rO (rP rI rI)))) ranges_1, .ow (oL (rP rI rI)) found_1, .no, .no, .no, .no]) ?_ (fun s_4 => ?_)
  · intro s_1 row_1
    unfold m_critical_lengths_b2
    refine sx_forM (mi := some ([some row_1.2.2.1, row_1.2.2.2])) (s0 := s_1) (f := (m_critical_lengths_b1)) (fun s_2 => [.sh (rL (rP4 rI rI (rP rI rI) (rO (rP rI rI)))) ranges_1, .ow (oL (rP rI rI)) s_2, .sh (rP4 rI rI (rP rI rI) (rO (rP rI rI))) row_1, .no, .no, .no]) (ii_tup (ex_sl42 nnP (ex_var (r := (rP4 rI rI (rP rI rI) (rO (rP rI rI)))) (x := row_1) 2))) (gt_name 3) (.s (.s (.s (.s (.s (.s (.n)))))) : Wk [.sh (rL (rP4 rI rI (rP rI rI) (rO (rP rI rI)))) ranges_1, .ow (oL (rP rI rI)) s_1, .sh (rP4 rI rI (rP rI rI) (rO (rP rI rI))) row_1, .no, .no, .no] [.sh (rL (rP4 rI rI (rP rI rI) (rO (rP rI rI)))) ranges_1, .ow (oL (rP rI rI)) s_1, .sh (rP4 rI rI (rP rI rI) (rO (rP rI rI))) row_1, .no, .no, .no]) ?_ (fun s_3 => ?_)
    · intro s_2 one_1
      unfold m_critical_lengths_b1
      refine sx_ifE (tt_w (tw_and (tt_cmp0 o_notN (ex_var (r := (rO (rP rI rI))) (x := one_1) 3) ex_unit) (tw_and1 (tt_cmp o_gt (ex_call K_compare (ea_cons (ex_get (ex_var (r := (rO (rP rI rI))) (x := one_1) 3)) (ea_cons (G.c_ZERO) (ea_nil))) (alS (alS (fun _ _ _ _ _ => al0)))) (ex_int))))) ?_ ?_
      · refine sx_bind 4 (ex_callB c_len G.f_len b_len (ea_cons (ex_fq (ex_lc (m := some s_2) (r := (rP rI rI)) (q := (rP rI rI)) (c := fun other_1 => b2 ((b2 (some other_1) (b2 one_1 (some ()) (fun x y => some (x, y))) (fun x y => some (x, y))).bind (fun t => m_compare t.1 t.2.1)) (some (0 : Int)) (fun x y => some (decide (x < y)))) (f := fun other_1 => some other_1) [("other", 5)] (by kernel_rfl) (ii_list (ex_varO (x := s_2) 1)) (gt_name 5) (fun other_1 => ts_one (tt_cmp o_lt (ex_call (K_compare.blk _) (ea_cons (ex_var (r := (rP rI rI)) (x := other_1) 5) (ea_cons (ex_get (ex_var (r := (rO (rP rI rI))) (x := one_1) 3)) (ea_nil))) (alS (alS (fun _ _ _ _ _ => al0)))) (ex_int))) (fun other_1 => ex_var (r := (rP rI rI)) (x := other_1) 5))) (ea_nil))) (fun at_1 => ?_)
        refine sx_ifE (tt_w (tw_or (tt_cmp0 (o_eq dI) (ex_var (r := rI) (x := at_1) 4) (ex_callB0 c_len G.f_len b_len (ea_cons0 (ex_qO (ex_varO (x := s_2) 1)) (ea_nil)))) (tw_or1 (tt_cmp (o_ne (dO (dP dI dI) neP)) (ex_somep nnP (ex_ix0 (ex_qO (ex_varO (x := s_2) 1)) (ex_var (r := rI) (x := at_1) 4))) (ex_var (r := (rO (rP rI rI))) (x := one_1) 3))))) ?_ ?_
        · refine sx_ins (xs := s_2) 1 (ex_var (r := rI) (x := at_1) 4) (ex_get (ex_var (r := (rO (rP rI rI))) (x := one_1) 3)) (fun found_2 => ?_)
          exact sx_nil (.s (.s (.s (.d (.d (.s (.n)))))) : Wk [.sh (rL (rP4 rI rI (rP rI rI) (rO (rP rI rI)))) ranges_1, .ow (oL (rP rI rI)) found_2, .sh (rP4 rI rI (rP rI rI) (rO (rP rI rI))) row_1, .sh (rO (rP rI rI)) one_1, .sh rI at_1, .no] [.sh (rL (rP4 rI rI (rP rI rI) (rO (rP rI rI)))) ranges_1, .ow (oL (rP rI rI)) found_2, .sh (rP4 rI rI (rP rI rI) (rO (rP rI rI))) row_1, .no, .no, .no])
        · exact sx_nil (.s (.s (.s (.d (.d (.s (.n)))))) : Wk [.sh (rL (rP4 rI rI (rP rI rI) (rO (rP rI rI)))) ranges_1, .ow (oL (rP rI rI)) s_2, .sh (rP4 rI rI (rP rI rI) (rO (rP rI rI))) row_1, .sh (rO (rP rI rI)) one_1, .sh rI at_1, .no] [.sh (rL (rP4 rI rI (rP rI rI) (rO (rP rI rI)))) ranges_1, .ow (oL (rP rI rI)) s_2, .sh (rP4 rI rI (rP rI rI) (rO (rP rI rI))) row_1, .no, .no, .no])
      · exact sx_nil (.s (.s (.s (.d (.s (.s (.n)))))) : Wk [.sh (rL (rP4 rI rI (rP rI rI) (rO (rP rI rI)))) ranges_1, .ow (oL (rP rI rI)) s_2, .sh (rP4 rI rI (rP rI rI) (rO (rP rI rI))) row_1, .sh (rO (rP rI rI)) one_1, .no, .no] [.sh (rL (rP4 rI rI (rP rI rI) (rO (rP rI rI)))) ranges_1, .ow (oL (rP rI rI)) s_2, .sh (rP4 rI rI (rP rI rI) (rO (rP rI rI))) row_1, .no, .no, .no])
    exact sx_nil (.s (.s (.d (.s (.s (.s (.n)))))) : Wk [.sh (rL (rP4 rI rI (rP rI rI) (rO (rP rI rI)))) ranges_1, .ow (oL (rP rI rI)) s_3, .sh (rP4 rI rI (rP rI rI) (rO (rP rI rI))) row_1, .no, .no, .no] [.sh (rL (rP4 rI rI (rP rI rI) (rO (rP rI rI)))) ranges_1, .ow (oL (rP rI rI)) s_3, .no, .no, .no, .no])
  exact sx_retO 1
def K_critical_lengths (d : Dc) : Prop := ∀ (N : List Str) (sc : Scope) (K : Nat), 2 ≤ K → Fk (d.cc N sc K) "critical_lengths" 1 (aC (vS (rL (rP4 rI rI (rP rI rI) (rO (rP rI rI))))) aN) (fun t => m_critical_lengths t.1) (resF (oL (rP rI rI)))
theorem o_critical_lengths {d : Dc} (G : Facts d) (K_compare : K_compare d) {fd : FuncData} {dvs : List V} (F : FunD d.K "critical_lengths" "critical_lengths" (defArgs s_critical_lengths) (defBody s_critical_lengths) (defScope s_critical_lengths) dvs [] (He.ga d.K "critical_lengths") fd) : FnOk d.P d.w d.K d.mg d.base CX0 2 (He.ga d.K "critical_lengths") fd ["ranges"] (spT d.K (aC (vS (rL (rP4 rI rI (rP rI rI) (rO (rP rI rI))))) aN) (fun t => m_critical_lengths t.1) (resF (oL (rP rI rI)))) := by
  refine fn_ok (k := 1) F sc_critical_lengths (ars_cons ars_nil) (fun _ => rfl) ?_
  rintro B ⟨ranges_1, ⟨⟩⟩
  exact b_critical_lengths G K_compare B ranges_1
theorem k_critical_lengths {d : Dc} (G : Facts d) (K_compare : K_compare d) {fd : FuncData} (F : FunD d.K "critical_lengths" "critical_lengths" (defArgs s_critical_lengths) (defBody s_critical_lengths) (defScope s_critical_lengths) [] [] (He.ga d.K "critical_lengths") fd) : K_critical_lengths d := fun N sc K h =>
  fk_of (o_critical_lengths G K_compare F) G.g_critical_lengths F.kp (F.bindsN fun _ _ _ _ _ _ us hl => match us, hl with | [_], _ => rfl) h
end K44
set_option Elab.async false
set_option linter.all false
set_option maxRecDepth 100000
namespace K44
open PySem PySem.Spec PyProof.Rows L2 L2.T

def m_sure_lengths_b1 (cart_1 : (TyCart)) (ranges_1 : (List (Int × Int × (Int × Int) × (Option (Int × Int))))) (ends_1 : (List (Int × Int))) (s_1 : (List ((Int × Int) × (Option (Int × Int))))) (index_1 : (Int × (Int × Int))) : Option (Out ((List ((Int × Int) × (Option (Int × Int))))) ((List ((Int × Int) × (Option (Int × Int))))) (List ((Int × Int) × (Option (Int × Int))))) :=
  ((some ranges_1).bind (fun xs => lcM (fun row_1 => m_is_length_within index_1.2 row_1.2.2.1 row_1.2.2.2) (fun row_1 => some (row_1.1, row_1.2.1)) xs)).bind (fun ties_1 => bIf ((b2 ((m_label_marks (cart_1.2.1.length : Int) ties_1).bind (fun xs => some (xs.map (fun label_1 => (!decide (label_1 = (0 : Int))))))) (some ()) (fun x y => some (x, y))).bind (fun t => some ((t.1.any id)))) ((some (Lv.ct s_1)).map Out.lv) ((bIf (some (decide ((index_1.1 + (1 : Int)) < (ends_1.length : Int)))) ((atG ends_1 (index_1.1 + (1 : Int))).map some) (some none)).bind (fun end_1 => bIf (bAnd (some (!s_1.isEmpty)) (b2 ((atG s_1 (-(1 : Int))).map (fun x => x.2)) (some (some index_1.2)) (fun x y => some (decide (x = y))))) ((b2 ((b2 ((atG s_1 (-(1 : Int))).map (fun x => x.1)) (b2 (some end_1) (some ()) (fun x y => some (x, y))) (fun x y => some (x, y))).map (fun t => (t.1, t.2.1))) (some (-(1 : Int))) (fun y j => setG s_1 j y)).bind (fun found_2 => some (Out.nx found_2))) (((some (index_1.2, end_1)).bind (fun y => appG s_1 y)).bind (fun found_3 => some (Out.nx found_3))))))
def m_sure_lengths (cart_1 : (TyCart)) : Option (List ((Int × Int) × (Option (Int × Int)))) :=
  (m_ranges_of_stops cart_1).bind (fun ranges_1 => (m_critical_lengths ranges_1).bind (fun ends_1 => (some ([])).bind (fun found_1 => loR ((some (enL ends_1)).bind (fun xs => forL (m_sure_lengths_b1 cart_1 ranges_1 ends_1) xs found_1)) (fun s_2 => some s_2))))
abbrev s_sure_lengths : Stmt := top 25
theorem sc_sure_lengths : FnScope ["cart", "ranges", "ends", "found", "index", "begin", "ties", "end", "row", "label"] ["cart"] (defScope s_sure_lengths) := ⟨rfl, rfl, rfl, by decide +kernel, rfl, by decide +kernel, by decide +kernel⟩
set_option maxHeartbeats 4000000 in
theorem b_sure_lengths {d : Dc} (G : Facts d) (K_ranges_of_stops : K_ranges_of_stops d) (K_critical_lengths : K_critical_lengths d) (K_is_length_within : K_is_length_within d) (K_label_marks : K_label_marks d) (B : Bs) (cart_1 : (TyCart)) : Sx (d.cc ["cart", "ranges", "ends", "found", "index", "begin", "ties", "end", "row", "label"] (defScope s_sure_lengths) 4) B [.sh rCart cart_1, .no, .no, .no, .no, .no, .no, .no, .no, .no] (defBody s_sure_lengths) (m_sure_lengths cart_1) (pR (d.cc ["cart", "ranges", "ends", "found", "index", "begin", "ties", "end", "row", "label"] (defScope s_sure_lengths) 4) B (resS (rT (rP (rP rI rI) (rO (rP rI rI)))))) := by
  replace K_ranges_of_stops := K_ranges_of_stops ["cart", "ranges", "ends", "found", "index", "begin", "ties", "end", "row", "label"] (defScope s_sure_lengths) 4 (by decide)
  replace K_critical_lengths := K_critical_lengths ["cart", "ranges", "ends", "found", "index", "begin", "ties", "end", "row", "label"] (defScope s_sure_lengths) 4 (by decide)
  replace K_is_length_within := K_is_length_within ["cart", "ranges", "ends", "found", "index", "begin", "ties", "end", "row", "label"] (defScope s_sure_lengths) 4 (by decide)
  replace K_label_marks := K_label_marks ["cart", "ranges", "ends", "found", "index", "begin", "ties", "end", "row", "label"] (defScope s_sure_lengths) 4 (by decide)
  unfold m_sure_lengths
  refine sx_bind 1 (ex_fs (ex_callF0 K_ranges_of_stops (ea_cons0 (ex_var (r := rCart) (x := cart_1) 0) (ea_nil)) (alS (fun _ _ _ _ _ => al0)))) (fun ranges_1 => ?_)
  refine sx_bind 2 (ex_fs (ex_callF0 K_critical_lengths (ea_cons0 (ex_var (r := (rL (rP4 rI rI (rP rI rI) (rO (rP rI rI))))) (x := ranges_1) 1) (ea_nil)) (alS (fun _ _ _ _ _ => al0)))) (fun ends_1 => ?_)
  refine sx_bindF 3 (ex_lst0 (r := (rP (rP rI rI) (rO (rP rI rI)))) el_nil) (fun found_1 => ?_)
  refine sx_for (mi := some (enL ends_1)) (s0 := found_1) (f := (m_sure_lengths_b1 cart_1 ranges_1 ends_1)) (fun s_1 => [.sh rCart cart_1, .sh (rL (rP4 rI rI (rP rI rI) (rO (rP rI rI)))) ranges_1, .sh (rL (rP rI rI)) ends_1, .ow (oL (rP (rP rI rI) (rO (rP rI rI)))) s_1, .no, .no, .no, .no, .no, .no]) (ii_enum (m := some ends_1) G.f_enumerate (ex_var (r := (rL (rP rI rI))) (x := ends_1) 2)) (gt_pair (gt_name 4) (gt_name 5)) (.s (.s (.s (.s (.s (.s (.s (.s (.s (.s (.n)))))))))) : Wk [.sh rCart cart_1, .sh (rL (rP4 rI rI (rP rI rI) (rO (rP rI rI)))) ranges_1, .sh (rL (rP rI rI)) ends_1, .ow (oL (rP (rP rI rI) (rO (rP rI rI)))) found_1, .no, .no, .no, .no, .no, .no] [.sh rCart cart_1, .sh (rL (rP4 rI rI (rP rI rI) (rO (rP rI rI)))) ranges_1, .sh (rL (rP rI rI)) ends_1, .ow (oL (rP (rP rI rI) (rO (rP rI rI)))) found_1, .no, .no, .no, .no, .no, .no]) ?_ (fun s_2 => ?_)
  · intro s_1 index_1
    unfold m_sure_lengths_b1
    refine sx_lc 6 (mx := (some ranges_1)) (r := (rP4 rI rI (rP rI rI) (rO (rP rI rI)))) (q := (rP rI rI)) (c := fun row_1 => m_is_length_within index_1.2 row_1.2.2.1 row_1.2.2.2) (f := fun row_1 => some (row_1.1, row_1.2.1)) [("row", 8)] (by kernel_rfl) (ii_listS (ex_var (r := (rL (rP4 rI rI (rP rI rI) (rO (rP rI rI))))) (x := ranges_1) 1)) (gt_name 8) (fun row_1 => ts_one (tt_val (ex_call0 (K_is_length_within.blk _) (ea_cons0 (ex_var (r := (rP rI rI)) (x := index_1.2) 5) (ea_cons0 (ex_4at20 (ex_var (r := (rP4 rI rI (rP rI rI) (rO (rP rI rI)))) (x := row_1) 8)) (ea_cons0 (ex_4at30 (ex_var (r := (rP4 rI rI (rP rI rI) (rO (rP rI rI)))) (x := row_1) 8)) (ea_nil)))) (alS (alS (alS (fun _ _ _ _ _ => al0))))))) (fun row_1 => ex_tup20 (ea_cons0 (ex_4at00 (ex_var (r := (rP4 rI rI (rP rI rI) (rO (rP rI rI)))) (x := row_1) 8)) (ea_cons0 (ex_4at10 (ex_var (r := (rP4 rI rI (rP rI rI) (rO (rP rI rI)))) (x := row_1) 8)) (ea_nil)))) (fun ties_1 => ?_)
    refine sx_ifO (tt_val (ex_callB c_any G.f_any b_any (ea_cons (ex_fl (exF_of (ex_lc (m := (m_label_marks (cart_1.2.1.length : Int) ties_1)) (r := rI) (q := rB) (c := fun _ => some true) (f := fun label_1 => some (!decide (label_1 = (0 : Int)))) [("label", 9)] (by kernel_rfl) (ii_listS (ex_call0 K_label_marks (ea_cons0 (ex_callB0 c_len G.f_len b_len (ea_cons0 (ex_qT (ex_fld0 (fat_S fat_0) G.cl_Cart G.na_Cart_axles (ex_var (r := rCart) (x := cart_1) 0))) (ea_nil))) (ea_cons0 (ex_var (r := (rL (rP rI rI))) (x := ties_1) 6) (ea_nil))) (alS (alS (fun _ _ _ _ _ => al0))))) (gt_name 9) (fun _ => ts_nil) (fun label_1 => ex_cmp0 (o_ne dI) (ex_var (r := rI) (x := label_1) 9) (ex_int))) (congrArg (Option.bind _) (funext fun _ => lcM_map _ _)))) (ea_nil)))) ?_ ?_
    · exact sx_cnt (.s (.s (.s (.s (.d (.d (.d (.s (.s (.s (.n)))))))))) : Wk [.sh rCart cart_1, .sh (rL (rP4 rI rI (rP rI rI) (rO (rP rI rI)))) ranges_1, .sh (rL (rP rI rI)) ends_1, .ow (oL (rP (rP rI rI) (rO (rP rI rI)))) s_1, .sh rI index_1.1, .sh (rP rI rI) index_1.2, .sh (rL (rP rI rI)) ties_1, .no, .no, .no] [.sh rCart cart_1, .sh (rL (rP4 rI rI (rP rI rI) (rO (rP rI rI)))) ranges_1, .sh (rL (rP rI rI)) ends_1, .ow (oL (rP (rP rI rI) (rO (rP rI rI)))) s_1, .no, .no, .no, .no, .no, .no])
    · refine sx_bind 7 (ex_if (tt_cmp0 o_lt (ex_bin0 o_add (ex_var (r := rI) (x := index_1.1) 4) (ex_int)) (ex_callB0 c_len G.f_len b_len (ea_cons0 (ex_q (ex_var (r := (rL (rP rI rI))) (x := ends_1) 2)) (ea_nil)))) (ex_somep nnP (ex_ix0 (ex_q (ex_var (r := (rL (rP rI rI))) (x := ends_1) 2)) (ex_bin0 o_add (ex_var (r := rI) (x := index_1.1) 4) (ex_int)))) (ex_non (r := (rP rI rI)))) (fun end_1 => ?_)
      refine sx_ifE (tt_w (tw_and (tt_tru0 (ex_varO (x := s_1) 3)) (tw_and1 (tt_cmp (o_eq (dO (dP dI dI) neP)) (ex_at1 (ex_ix0 (ex_qO (ex_varO (x := s_1) 3)) (ex_neg0 (ex_int)))) (ex_some nnP (ex_var (r := (rP rI rI)) (x := index_1.2) 5)))))) ?_ ?_
      · refine sx_setI (xs := s_1) 3 (ex_tup2 (ea_cons (ex_at0 (ex_ix0 (ex_qO (ex_varO (x := s_1) 3)) (ex_neg0 (ex_int)))) (ea_cons (ex_var (r := (rO (rP rI rI))) (x := end_1) 7) (ea_nil)))) (ex_neg0 (ex_int)) (fun found_2 => ?_)
        exact sx_nilO (.s (.s (.s (.s (.d (.d (.d (.d (.s (.s (.n)))))))))) : Wk [.sh rCart cart_1, .sh (rL (rP4 rI rI (rP rI rI) (rO (rP rI rI)))) ranges_1, .sh (rL (rP rI rI)) ends_1, .ow (oL (rP (rP rI rI) (rO (rP rI rI)))) found_2, .sh rI index_1.1, .sh (rP rI rI) index_1.2, .sh (rL (rP rI rI)) ties_1, .sh (rO (rP rI rI)) end_1, .no, .no] [.sh rCart cart_1, .sh (rL (rP4 rI rI (rP rI rI) (rO (rP rI rI)))) ranges_1, .sh (rL (rP rI rI)) ends_1, .ow (oL (rP (rP rI rI) (rO (rP rI rI)))) found_2, .no, .no, .no, .no, .no, .no])
      · refine sx_app (xs := s_1) 3 (ex_tup20 (ea_cons0 (ex_var (r := (rP rI rI)) (x := index_1.2) 5) (ea_cons0 (ex_var (r := (rO (rP rI rI))) (x := end_1) 7) (ea_nil)))) (fun found_3 => ?_)
        exact sx_nilO (.s (.s (.s (.s (.d (.d (.d (.d (.s (.s (.n)))))))))) : Wk [.sh rCart cart_1, .sh (rL (rP4 rI rI (rP rI rI) (rO (rP rI rI)))) ranges_1, .sh (rL (rP rI rI)) ends_1, .ow (oL (rP (rP rI rI) (rO (rP rI rI)))) found_3, .sh rI index_1.1, .sh (rP rI rI) index_1.2, .sh (rL (rP rI rI)) ties_1, .sh (rO (rP rI rI)) end_1, .no, .no] [.sh rCart cart_1, .sh (rL (rP4 rI rI (rP rI rI) (rO (rP rI rI)))) ranges_1, .sh (rL (rP rI rI)) ends_1, .ow (oL (rP (rP rI rI) (rO (rP rI rI)))) found_3, .no, .no, .no, .no, .no, .no])
  exact sx_ret (ex_callT0 c_tuple G.f_tuple b_tuple (ea_cons0 (ex_qO (ex_varO (x := s_2) 3)) (ea_nil)))
def K_sure_lengths (d : Dc) : Prop := ∀ (N : List Str) (sc : Scope) (K : Nat), 5 ≤ K → Fk (d.cc N sc K) "sure_lengths" 1 (aC (vS rCart) aN) (fun t => m_sure_lengths t.1) (resS (rT (rP (rP rI rI) (rO (rP rI rI)))))
theorem o_sure_lengths {d : Dc} (G : Facts d) (K_ranges_of_stops : K_ranges_of_stops d) (K_critical_lengths : K_critical_lengths d) (K_is_length_within : K_is_length_within d) (K_label_marks : K_label_marks d) {fd : FuncData} {dvs : List V} (F : FunD d.K "sure_lengths" "sure_lengths" (defArgs s_sure_lengths) (defBody s_sure_lengths) (defScope s_sure_lengths) dvs [] (He.ga d.K "sure_lengths") fd) : FnOk d.P d.w d.K d.mg d.base CX0 5 (He.ga d.K "sure_lengths") fd ["cart"] (spT d.K (aC (vS rCart) aN) (fun t => m_sure_lengths t.1) (resS (rT (rP (rP rI rI) (rO (rP rI rI)))))) := by
  refine fn_ok (k := 4) F sc_sure_lengths (ars_cons ars_nil) (fun _ => rfl) ?_
  rintro B ⟨cart_1, ⟨⟩⟩
  exact b_sure_lengths G K_ranges_of_stops K_critical_lengths K_is_length_within K_label_marks B cart_1
theorem k_sure_lengths {d : Dc} (G : Facts d) (K_ranges_of_stops : K_ranges_of_stops d) (K_critical_lengths : K_critical_lengths d) (K_is_length_within : K_is_length_within d) (K_label_marks : K_label_marks d) {fd : FuncData} (F : FunD d.K "sure_lengths" "sure_lengths" (defArgs s_sure_lengths) (defBody s_sure_lengths) (defScope s_sure_lengths) [] [] (He.ga d.K "sure_lengths") fd) : K_sure_lengths d := fun N sc K h =>
  fk_of (o_sure_lengths G K_ranges_of_stops K_critical_lengths K_is_length_within K_label_marks F) G.g_sure_lengths F.kp (F.bindsN fun _ _ _ _ _ _ us hl => match us, hl with | [_], _ => rfl) h
end K44
set_option Elab.async false
set_option linter.all false
set_option maxRecDepth 100000
namespace K44
open PySem PySem.Spec PyProof.Rows L2 L2.T

def m_law_digits_b1 (s_1 : Int × (List Int)) (at_1 : Int) : Option (Int × (List Int)) :=
  ((some s_1.1).bind (fun y => appG s_1.2 y)).bind (fun out_2 => (divG s_1.1 (997 : Int)).bind (fun big_2 => some (big_2, out_2)))
def m_law_digits_b2 (s_3 : (List Int) × Int) (at_2 : Int) : Option ((List Int) × Int) :=
  (b2 ((b2 (b2 (b2 (mulG s_3.2 (69621 : Int)) (mulG (7919 : Int) at_2) (fun x y => some (x + y))) (some (104729 : Int)) (fun x y => some (x + y))) (some ()) (fun x y => some (x, y))).bind (fun t => some (t.1))) (some (2147483629 : Int)) modG).bind (fun state_2 => ((divG state_2 (13 : Int)).bind (fun y => appG s_3.1 y)).bind (fun out_3 => some (out_3, state_2)))
def m_law_digits (cell_1 : Int) (many_1 : Int) : Option (List Int) :=
  (some (if cell_1 < 0 then -cell_1 else cell_1)).bind (fun big_1 => (some ([])).bind (fun out_1 => bIf (b2 (some big_1) (powG (10 : Int) (18 : Int)) (fun x y => some (decide (x ≥ y)))) (((rgG 0 many_1).bind (fun xs => forM (m_law_digits_b1) xs (big_1, out_1))).bind (fun s_2 => some s_2.2)) ((b2 ((b2 (b2 (mulG cell_1 (48271 : Int)) (some (11 : Int)) (fun x y => some (x + y))) (some ()) (fun x y => some (x, y))).bind (fun t => some (t.1))) (some (2147483647 : Int)) modG).bind (fun state_1 => ((rgG 0 many_1).bind (fun xs => forM (m_law_digits_b2) xs (out_1, state_1))).bind (fun s_4 => some s_4.1)))))
abbrev s_law_digits : Stmt := top 27
theorem sc_law_digits : FnScope ["cell", "many", "big", "out", "state", "at"] ["cell", "many"] (defScope s_law_digits) := ⟨rfl, rfl, rfl, by decide +kernel, rfl, by decide +kernel, by decide +kernel⟩
set_option maxHeartbeats 4000000 in
theorem b_law_digits {d : Dc} (G : Facts d) (B : Bs) (cell_1 : Int) (many_1 : Int) : Sx (d.cc ["cell", "many", "big", "out", "state", "at"] (defScope s_law_digits) 0) B [.sh rI cell_1, .sh rI many_1, .no, .no, .no, .no] (defBody s_law_digits) (m_law_digits cell_1 many_1) (pR (d.cc ["cell", "many", "big", "out", "state", "at"] (defScope s_law_digits) 0) B (resF (oL rI))) := by
  unfold m_law_digits
  refine sx_bind 2 (ex_callB0 c_abs G.f_abs b_abs (ea_cons0 (ex_callT0 c_int G.f_int b_int (ea_cons0 (ex_var (r := rI) (x := cell_1) 0) (ea_nil))) (ea_nil))) (fun big_1 => ?_)
  refine sx_bindF 3 (ex_lst0 (r := rI) el_nil) (fun out_1 => ?_)
  refine sx_ifR (tt_cmp o_ge (ex_var (r := rI) (x := big_1) 2) (ex_bin0 o_pow (ex_int) (ex_int))) ?_ ?_ fin_R
  · refine sx_forM (mi := rgG 0 many_1) (s0 := (big_1, out_1)) (f := (m_law_digits_b1)) (fun s_1 => [.sh rI cell_1, .sh rI many_1, .sh rI s_1.1, .ow (oL rI) s_1.2, .no, .no]) (ii_rng1 (m := (some many_1)) G.f_range (ex_var (r := rI) (x := many_1) 1)) (gt_name 5) (.s (.s (.s (.s (.s (.s (.n)))))) : Wk [.sh rI cell_1, .sh rI many_1, .sh rI big_1, .ow (oL rI) out_1, .no, .no] [.sh rI cell_1, .sh rI many_1, .sh rI big_1, .ow (oL rI) out_1, .no, .no]) ?_ (fun s_2 => ?_)
    · intro s_1 at_1
      unfold m_law_digits_b1
      refine sx_app (xs := s_1.2) 3 (ex_var (r := rI) (x := s_1.1) 2) (fun out_2 => ?_)
      refine sx_bind 2 (ex_bin0 o_div (ex_var (r := rI) (x := s_1.1) 2) (ex_int)) (fun big_2 => ?_)
      exact sx_nil (.s (.s (.s (.s (.s (.d (.n)))))) : Wk [.sh rI cell_1, .sh rI many_1, .sh rI big_2, .ow (oL rI) out_2, .no, .sh rI at_1] [.sh rI cell_1, .sh rI many_1, .sh rI big_2, .ow (oL rI) out_2, .no, .no])
    exact sx_retO 3
  · refine sx_bind 4 (ex_bin o_mod (ex_callT c_int G.f_int b_int (ea_cons (ex_bin o_add (ex_bin0 o_mul (ex_var (r := rI) (x := cell_1) 0) (ex_int)) (ex_int)) (ea_nil))) (ex_int)) (fun state_1 => ?_)
    refine sx_forM (mi := rgG 0 many_1) (s0 := (out_1, state_1)) (f := (m_law_digits_b2)) (fun s_3 => [.sh rI cell_1, .sh rI many_1, .sh rI big_1, .ow (oL rI) s_3.1, .sh rI s_3.2, .no]) (ii_rng1 (m := (some many_1)) G.f_range (ex_var (r := rI) (x := many_1) 1)) (gt_name 5) (.s (.s (.s (.s (.s (.s (.n)))))) : Wk [.sh rI cell_1, .sh rI many_1, .sh rI big_1, .ow (oL rI) out_1, .sh rI state_1, .no] [.sh rI cell_1, .sh rI many_1, .sh rI big_1, .ow (oL rI) out_1, .sh rI state_1, .no]) ?_ (fun s_4 => ?_)
    · intro s_3 at_2
      unfold m_law_digits_b2
      refine sx_bind 4 (ex_bin o_mod (ex_callT c_int G.f_int b_int (ea_cons (ex_bin o_add (ex_bin o_add (ex_bin0 o_mul (ex_var (r := rI) (x := s_3.2) 4) (ex_int)) (ex_bin0 o_mul (ex_int) (ex_var (r := rI) (x := at_2) 5))) (ex_int)) (ea_nil))) (ex_int)) (fun state_2 => ?_)
      refine sx_app (xs := s_3.1) 3 (ex_bin0 o_div (ex_var (r := rI) (x := state_2) 4) (ex_int)) (fun out_3 => ?_)
      exact sx_nil (.s (.s (.s (.s (.s (.d (.n)))))) : Wk [.sh rI cell_1, .sh rI many_1, .sh rI big_1, .ow (oL rI) out_3, .sh rI state_2, .sh rI at_2] [.sh rI cell_1, .sh rI many_1, .sh rI big_1, .ow (oL rI) out_3, .sh rI state_2, .no])
    exact sx_retO 3
def K_law_digits (d : Dc) : Prop := ∀ (N : List Str) (sc : Scope) (K : Nat), 1 ≤ K → Fk (d.cc N sc K) "_law_digits" 2 (aC (vS rI) (aC (vS rI) aN)) (fun t => m_law_digits t.1 t.2.1) (resF (oL rI))
theorem o_law_digits {d : Dc} (G : Facts d) {fd : FuncData} {dvs : List V} (F : FunD d.K "_law_digits" "_law_digits" (defArgs s_law_digits) (defBody s_law_digits) (defScope s_law_digits) dvs [] (He.ga d.K "_law_digits") fd) : FnOk d.P d.w d.K d.mg d.base CX0 1 (He.ga d.K "_law_digits") fd ["cell", "many"] (spT d.K (aC (vS rI) (aC (vS rI) aN)) (fun t => m_law_digits t.1 t.2.1) (resF (oL rI))) := by
  refine fn_ok (k := 0) F sc_law_digits (ars_cons (ars_cons ars_nil)) (fun _ => rfl) ?_
  rintro B ⟨cell_1, many_1, ⟨⟩⟩
  exact b_law_digits G  B cell_1 many_1
theorem k_law_digits {d : Dc} (G : Facts d) {fd : FuncData} (F : FunD d.K "_law_digits" "_law_digits" (defArgs s_law_digits) (defBody s_law_digits) (defScope s_law_digits) [] [] (He.ga d.K "_law_digits") fd) : K_law_digits d := fun N sc K h =>
  fk_of (o_law_digits G  F) G.g_law_digits F.kp (F.bindsN fun _ _ _ _ _ _ us hl => match us, hl with | [_, _], _ => rfl) h
end K44
set_option Elab.async false
set_option linter.all false
set_option maxRecDepth 100000
namespace K44
open PySem PySem.Spec PyProof.Rows L2 L2.T

def m_law_cell (script_1 : List Int) (at_1 : Int) : Option Int :=
  bIf (some (decide (at_1 < (script_1.length : Int)))) ((b2 (b2 (some script_1) (some at_1) atG) (some ()) (fun x y => some (x, y))).bind (fun t => some (t.1))) (b2 (mulG (1000003 : Int) at_1) (some (7 : Int)) (fun x y => some (x + y)))
abbrev s_law_cell : Stmt := top 28
theorem sc_law_cell : FnScope ["script", "at"] ["script", "at"] (defScope s_law_cell) := ⟨rfl, rfl, rfl, by decide +kernel, rfl, by decide +kernel, by decide +kernel⟩
set_option maxHeartbeats 4000000 in
theorem b_law_cell {d : Dc} (G : Facts d) (B : Bs) (script_1 : List Int) (at_1 : Int) : Sx (d.cc ["script", "at"] (defScope s_law_cell) 0) B [.sh rZ script_1, .sh rI at_1] (defBody s_law_cell) (m_law_cell script_1 at_1) (pR (d.cc ["script", "at"] (defScope s_law_cell) 0) B (resS rI)) := by
  unfold m_law_cell
  exact sx_ret (ex_if (tt_cmp0 o_lt (ex_var (r := rI) (x := at_1) 1) (ex_callB0 c_lenZ G.f_len b_len (ea_cons0 (ex_var (r := rZ) (x := script_1) 0) (ea_nil)))) (ex_callT c_int G.f_int b_int (ea_cons (ex_ixZ (ex_var (r := rZ) (x := script_1) 0) (ex_var (r := rI) (x := at_1) 1)) (ea_nil))) (ex_bin o_add (ex_bin0 o_mul (ex_int) (ex_var (r := rI) (x := at_1) 1)) (ex_int)))
def K_law_cell (d : Dc) : Prop := ∀ (N : List Str) (sc : Scope) (K : Nat), 1 ≤ K → Fk (d.cc N sc K) "_law_cell" 2 (aC (vS rZ) (aC (vS rI) aN)) (fun t => m_law_cell t.1 t.2.1) (resS rI)
theorem o_law_cell {d : Dc} (G : Facts d) {fd : FuncData} {dvs : List V} (F : FunD d.K "_law_cell" "_law_cell" (defArgs s_law_cell) (defBody s_law_cell) (defScope s_law_cell) dvs [] (He.ga d.K "_law_cell") fd) : FnOk d.P d.w d.K d.mg d.base CX0 1 (He.ga d.K "_law_cell") fd ["script", "at"] (spT d.K (aC (vS rZ) (aC (vS rI) aN)) (fun t => m_law_cell t.1 t.2.1) (resS rI)) := by
  refine fn_ok (k := 0) F sc_law_cell (ars_cons (ars_cons ars_nil)) (fun _ => rfl) ?_
  rintro B ⟨script_1, at_1, ⟨⟩⟩
  exact b_law_cell G  B script_1 at_1
theorem k_law_cell {d : Dc} (G : Facts d) {fd : FuncData} (F : FunD d.K "_law_cell" "_law_cell" (defArgs s_law_cell) (defBody s_law_cell) (defScope s_law_cell) [] [] (He.ga d.K "_law_cell") fd) : K_law_cell d := fun N sc K h =>
  fk_of (o_law_cell G  F) G.g_law_cell F.kp (F.bindsN fun _ _ _ _ _ _ us hl => match us, hl with | [_, _], _ => rfl) h
end K44
set_option Elab.async false
set_option linter.all false
set_option maxRecDepth 100000
namespace K44
open PySem PySem.Spec PyProof.Rows L2 L2.T

def m_law_gcd_b1 (s_1 : Int × Int) (step_1 : Int) : Option (Out (Int × Int) (Int × Int) Int) :=
  bIf (some (decide (s_1.2 = (0 : Int)))) ((some (Lv.bk (s_1.1, s_1.2))).map Out.lv) ((b2 (some s_1.2) (b2 (modG s_1.1 s_1.2) (some ()) (fun x y => some (x, y))) (fun x y => some (x, y))).bind (fun t_1 => (fun a_3 b_3 => some (Out.nx (a_3, b_3))) t_1.1 t_1.2.1))
def m_law_gcd (a_1 : Int) (b_1 : Int) : Option Int :=
  (some (if a_1 < 0 then -a_1 else a_1)).bind (fun a_2 => (some (if b_1 < 0 then -b_1 else b_1)).bind (fun b_2 => loR ((rgG 0 (4000 : Int)).bind (fun xs => forL (m_law_gcd_b1) xs (a_2, b_2))) (fun s_2 => some s_2.1)))
abbrev s_law_gcd : Stmt := top 29
theorem sc_law_gcd : FnScope ["a", "b", "step"] ["a", "b"] (defScope s_law_gcd) := ⟨rfl, rfl, rfl, by decide +kernel, rfl, by decide +kernel, by decide +kernel⟩
set_option maxHeartbeats 4000000 in
theorem b_law_gcd {d : Dc} (G : Facts d) (B : Bs) (a_1 : Int) (b_1 : Int) : Sx (d.cc ["a", "b", "step"] (defScope s_law_gcd) 0) B [.sh rI a_1, .sh rI b_1, .no] (defBody s_law_gcd) (m_law_gcd a_1 b_1) (pR (d.cc ["a", "b", "step"] (defScope s_law_gcd) 0) B (resS rI)) := by
  unfold m_law_gcd
  refine sx_bind 0 (ex_callB0 c_abs G.f_abs b_abs (ea_cons0 (ex_var (r := rI) (x := a_1) 0) (ea_nil))) (fun a_2 => ?_)
  refine sx_bind 1 (ex_callB0 c_abs G.f_abs b_abs (ea_cons0 (ex_var (r := rI) (x := b_1) 1) (ea_nil))) (fun b_2 => ?_)
  refine sx_for (mi := rgG 0 (4000 : Int)) (s0 := (a_2, b_2)) (f := (m_law_gcd_b1)) (fun s_1 => [.sh rI s_1.1, .sh rI s_1.2, .no]) (ii_rng1 (m := (some (4000 : Int))) G.f_range (ex_int)) (gt_name 2) (.s (.s (.s (.n))) : Wk [.sh rI a_2, .sh rI b_2, .no] [.sh rI a_2, .sh rI b_2, .no]) ?_ (fun s_2 => ?_)
  · intro s_1 step_1
    unfold m_law_gcd_b1
    refine sx_ifO (tt_cmp0 (o_eq dI) (ex_var (r := rI) (x := s_1.2) 1) (ex_int)) ?_ ?_
    · exact sx_brk (.s (.s (.d (.n))) : Wk [.sh rI s_1.1, .sh rI s_1.2, .sh rI step_1] [.sh rI s_1.1, .sh rI s_1.2, .no])
    · refine sx_par (m := fun a_3 b_3 => some (Out.nx (a_3, b_3))) 0 1 (ea_cons (ex_var (r := rI) (x := s_1.2) 1) (ea_cons (ex_bin0 o_mod (ex_callT0 c_int G.f_int b_int (ea_cons0 (ex_var (r := rI) (x := s_1.1) 0) (ea_nil))) (ex_var (r := rI) (x := s_1.2) 1)) (ea_nil))) (fun a_3 b_3 => ?_)
      exact sx_nilO (.s (.s (.d (.n))) : Wk [.sh rI a_3, .sh rI b_3, .sh rI step_1] [.sh rI a_3, .sh rI b_3, .no])
  exact sx_ret (ex_var (r := rI) (x := s_2.1) 0)
def K_law_gcd (d : Dc) : Prop := ∀ (N : List Str) (sc : Scope) (K : Nat), 1 ≤ K → Fk (d.cc N sc K) "_law_gcd" 2 (aC (vS rI) (aC (vS rI) aN)) (fun t => m_law_gcd t.1 t.2.1) (resS rI)
theorem o_law_gcd {d : Dc} (G : Facts d) {fd : FuncData} {dvs : List V} (F : FunD d.K "_law_gcd" "_law_gcd" (defArgs s_law_gcd) (defBody s_law_gcd) (defScope s_law_gcd) dvs [] (He.ga d.K "_law_gcd") fd) : FnOk d.P d.w d.K d.mg d.base CX0 1 (He.ga d.K "_law_gcd") fd ["a", "b"] (spT d.K (aC (vS rI) (aC (vS rI) aN)) (fun t => m_law_gcd t.1 t.2.1) (resS rI)) := by
  refine fn_ok (k := 0) F sc_law_gcd (ars_cons (ars_cons ars_nil)) (fun _ => rfl) ?_
  rintro B ⟨a_1, b_1, ⟨⟩⟩
  exact b_law_gcd G  B a_1 b_1
theorem k_law_gcd {d : Dc} (G : Facts d) {fd : FuncData} (F : FunD d.K "_law_gcd" "_law_gcd" (defArgs s_law_gcd) (defBody s_law_gcd) (defScope s_law_gcd) [] [] (He.ga d.K "_law_gcd") fd) : K_law_gcd d := fun N sc K h =>
  fk_of (o_law_gcd G  F) G.g_law_gcd F.kp (F.bindsN fun _ _ _ _ _ _ us hl => match us, hl with | [_, _], _ => rfl) h
end K44
set_option Elab.async false
set_option linter.all false
set_option maxRecDepth 100000
namespace K44
open PySem PySem.Spec PyProof.Rows L2 L2.T

def m_law_ratio (top_1 : Int) (bottom_1 : Int) : Option (Int × Int) :=
  (bIf (some (decide (bottom_1 < (0 : Int)))) ((some (-top_1)).bind (fun top_2 => (some (-bottom_1)).bind (fun bottom_2 => some (top_2, bottom_2)))) (some (top_1, bottom_1))).bind (fun j_1 => (m_law_gcd j_1.1 j_1.2).bind (fun part_1 => (b2 (divG j_1.1 part_1) (b2 (divG j_1.2 part_1) (some ()) (fun x y => some (x, y))) (fun x y => some (x, y))).map (fun t => (t.1, t.2.1))))
abbrev s_law_ratio : Stmt := top 30
theorem sc_law_ratio : FnScope ["top", "bottom", "part"] ["top", "bottom"] (defScope s_law_ratio) := ⟨rfl, rfl, rfl, by decide +kernel, rfl, by decide +kernel, by decide +kernel⟩
set_option maxHeartbeats 4000000 in
theorem b_law_ratio {d : Dc} (G : Facts d) (K_law_gcd : K_law_gcd d) (B : Bs) (top_1 : Int) (bottom_1 : Int) : Sx (d.cc ["top", "bottom", "part"] (defScope s_law_ratio) 1) B [.sh rI top_1, .sh rI bottom_1, .no] (defBody s_law_ratio) (m_law_ratio top_1 bottom_1) (pR (d.cc ["top", "bottom", "part"] (defScope s_law_ratio) 1) B (resS (rP rI rI))) := by
  replace K_law_gcd := K_law_gcd ["top", "bottom", "part"] (defScope s_law_ratio) 1 (by decide)
  unfold m_law_ratio
  refine sx_ifJ (fun j_1 => [.sh rI j_1.1, .sh rI j_1.2, .no]) (tt_cmp0 o_lt (ex_var (r := rI) (x := bottom_1) 1) (ex_int)) ?_ ?_ (fun j_1 => ?_)
  · refine sx_bind 0 (ex_neg0 (ex_var (r := rI) (x := top_1) 0)) (fun top_2 => ?_)
    refine sx_bind 1 (ex_neg0 (ex_var (r := rI) (x := bottom_1) 1)) (fun bottom_2 => ?_)
    exact sx_nil (.s (.s (.s (.n))) : Wk [.sh rI top_2, .sh rI bottom_2, .no] [.sh rI top_2, .sh rI bottom_2, .no])
  · exact sx_nil (.s (.s (.s (.n))) : Wk [.sh rI top_1, .sh rI bottom_1, .no] [.sh rI top_1, .sh rI bottom_1, .no])
  refine sx_bind 2 (ex_call0 K_law_gcd (ea_cons0 (ex_var (r := rI) (x := j_1.1) 0) (ea_cons0 (ex_var (r := rI) (x := j_1.2) 1) (ea_nil))) (alS (alS (fun _ _ _ _ _ => al0)))) (fun part_1 => ?_)
  exact sx_ret (ex_tup2 (ea_cons (ex_bin0 o_div (ex_var (r := rI) (x := j_1.1) 0) (ex_var (r := rI) (x := part_1) 2)) (ea_cons (ex_bin0 o_div (ex_var (r := rI) (x := j_1.2) 1) (ex_var (r := rI) (x := part_1) 2)) (ea_nil))))
def K_law_ratio (d : Dc) : Prop := ∀ (N : List Str) (sc : Scope) (K : Nat), 2 ≤ K → Fk (d.cc N sc K) "_law_ratio" 2 (aC (vS rI) (aC (vS rI) aN)) (fun t => m_law_ratio t.1 t.2.1) (resS (rP rI rI))
theorem o_law_ratio {d : Dc} (G : Facts d) (K_law_gcd : K_law_gcd d) {fd : FuncData} {dvs : List V} (F : FunD d.K "_law_ratio" "_law_ratio" (defArgs s_law_ratio) (defBody s_law_ratio) (defScope s_law_ratio) dvs [] (He.ga d.K "_law_ratio") fd) : FnOk d.P d.w d.K d.mg d.base CX0 2 (He.ga d.K "_law_ratio") fd ["top", "bottom"] (spT d.K (aC (vS rI) (aC (vS rI) aN)) (fun t => m_law_ratio t.1 t.2.1) (resS (rP rI rI))) := by
  refine fn_ok (k := 1) F sc_law_ratio (ars_cons (ars_cons ars_nil)) (fun _ => rfl) ?_
  rintro B ⟨top_1, bottom_1, ⟨⟩⟩
  exact b_law_ratio G K_law_gcd B top_1 bottom_1
theorem k_law_ratio {d : Dc} (G : Facts d) (K_law_gcd : K_law_gcd d) {fd : FuncData} (F : FunD d.K "_law_ratio" "_law_ratio" (defArgs s_law_ratio) (defBody s_law_ratio) (defScope s_law_ratio) [] [] (He.ga d.K "_law_ratio") fd) : K_law_ratio d := fun N sc K h =>
  fk_of (o_law_ratio G K_law_gcd F) G.g_law_ratio F.kp (F.bindsN fun _ _ _ _ _ _ us hl => match us, hl with | [_, _], _ => rfl) h
end K44
set_option Elab.async false
set_option linter.all false
set_option maxRecDepth 100000
namespace K44
open PySem PySem.Spec PyProof.Rows L2 L2.T

def m_law_axles_b1 (ds_1 : (List Int)) (on_1 : Int) (least_1 : Int) (spread_1 : Int) (s_1 : Int × (List Int)) (k_1 : Int) : Option (Int × (List Int)) :=
  ((some s_1.1).bind (fun y => appG s_1.2 y)).bind (fun out_2 => ((b2 (some least_1) (b2 ((b2 (atG ds_1 ((on_1 + (1 : Int)) + k_1)) (some ()) (fun x y => some (x, y))).bind (fun t => some (t.1))) (some spread_1) modG) (fun x y => some (x + y))).bind (fun y => some (s_1.1 + y))).bind (fun at_2 => some (at_2, out_2)))
def m_law_axles (ds_1 : (List Int)) (on_1 : Int) (many_1 : Int) (least_1 : Int) (spread_1 : Int) : Option (List Int) :=
  (b2 (b2 ((b2 (atG ds_1 on_1) (some ()) (fun x y => some (x, y))).bind (fun t => some (t.1))) (some (21 : Int)) modG) (some (10 : Int)) (fun x y => some (x - y))).bind (fun at_1 => (some ([])).bind (fun out_1 => ((rgG 0 many_1).bind (fun xs => forM (m_law_axles_b1 ds_1 on_1 least_1 spread_1) xs (at_1, out_1))).bind (fun s_2 => some s_2.2)))
abbrev s_law_axles : Stmt := top 31
theorem sc_law_axles : FnScope ["ds", "on", "many", "least", "spread", "at", "out", "k"] ["ds", "on", "many", "least", "spread"] (defScope s_law_axles) := ⟨rfl, rfl, rfl, by decide +kernel, rfl, by decide +kernel, by decide +kernel⟩
set_option maxHeartbeats 4000000 in
theorem b_law_axles {d : Dc} (G : Facts d) (B : Bs) (ds_1 : (List Int)) (on_1 : Int) (many_1 : Int) (least_1 : Int) (spread_1 : Int) : Sx (d.cc ["ds", "on", "many", "least", "spread", "at", "out", "k"] (defScope s_law_axles) 0) B [.sh (rL rI) ds_1, .sh rI on_1, .sh rI many_1, .sh rI least_1, .sh rI spread_1, .no, .no, .no] (defBody s_law_axles) (m_law_axles ds_1 on_1 many_1 least_1 spread_1) (pR (d.cc ["ds", "on", "many", "least", "spread", "at", "out", "k"] (defScope s_law_axles) 0) B (resF (oL rI))) := by
  unfold m_law_axles
  refine sx_bind 5 (ex_bin o_sub (ex_bin o_mod (ex_callT c_int G.f_int b_int (ea_cons (ex_ix0 (ex_q (ex_var (r := (rL rI)) (x := ds_1) 0)) (ex_var (r := rI) (x := on_1) 1)) (ea_nil))) (ex_int)) (ex_int)) (fun at_1 => ?_)
  refine sx_bindF 6 (ex_lst0 (r := rI) el_nil) (fun out_1 => ?_)
  refine sx_forM (mi := rgG 0 many_1) (s0 := (at_1, out_1)) (f := (m_law_axles_b1 ds_1 on_1 least_1 spread_1)) (fun s_1 => [.sh (rL rI) ds_1, .sh rI on_1, .sh rI many_1, .sh rI least_1, .sh rI spread_1, .sh rI s_1.1, .ow (oL rI) s_1.2, .no]) (ii_rng1 (m := (some many_1)) G.f_range (ex_var (r := rI) (x := many_1) 2)) (gt_name 7) (.s (.s (.s (.s (.s (.s (.s (.s (.n)))))))) : Wk [.sh (rL rI) ds_1, .sh rI on_1, .sh rI many_1, .sh rI least_1, .sh rI spread_1, .sh rI at_1, .ow (oL rI) out_1, .no] [.sh (rL rI) ds_1, .sh rI on_1, .sh rI many_1, .sh rI least_1, .sh rI spread_1, .sh rI at_1, .ow (oL rI) out_1, .no]) ?_ (fun s_2 => ?_)
  · intro s_1 k_1
    unfold m_law_axles_b1
    refine sx_app (xs := s_1.2) 6 (ex_var (r := rI) (x := s_1.1) 5) (fun out_2 => ?_)
    refine sx_aug (x := s_1.1) 5 io_add (ex_bin o_add (ex_var (r := rI) (x := least_1) 3) (ex_bin o_mod (ex_callT c_int G.f_int b_int (ea_cons (ex_ix0 (ex_q (ex_var (r := (rL rI)) (x := ds_1) 0)) (ex_bin0 o_add (ex_bin0 o_add (ex_var (r := rI) (x := on_1) 1) (ex_int)) (ex_var (r := rI) (x := k_1) 7))) (ea_nil))) (ex_var (r := rI) (x := spread_1) 4))) (fun at_2 => ?_)
    exact sx_nil (.s (.s (.s (.s (.s (.s (.s (.d (.n)))))))) : Wk [.sh (rL rI) ds_1, .sh rI on_1, .sh rI many_1, .sh rI least_1, .sh rI spread_1, .sh rI at_2, .ow (oL rI) out_2, .sh rI k_1] [.sh (rL rI) ds_1, .sh rI on_1, .sh rI many_1, .sh rI least_1, .sh rI spread_1, .sh rI at_2, .ow (oL rI) out_2, .no])
  exact sx_retO 6
def K_law_axles (d : Dc) : Prop := ∀ (N : List Str) (sc : Scope) (K : Nat), 1 ≤ K → Fk (d.cc N sc K) "_law_axles" 5 (aC (vS (rL rI)) (aC (vS rI) (aC (vS rI) (aC (vS rI) (aC (vS rI) aN))))) (fun t => m_law_axles t.1 t.2.1 t.2.2.1 t.2.2.2.1 t.2.2.2.2.1) (resF (oL rI))
theorem o_law_axles {d : Dc} (G : Facts d) {fd : FuncData} {dvs : List V} (F : FunD d.K "_law_axles" "_law_axles" (defArgs s_law_axles) (defBody s_law_axles) (defScope s_law_axles) dvs [] (He.ga d.K "_law_axles") fd) : FnOk d.P d.w d.K d.mg d.base CX0 1 (He.ga d.K "_law_axles") fd ["ds", "on", "many", "least", "spread"] (spT d.K (aC (vS (rL rI)) (aC (vS rI) (aC (vS rI) (aC (vS rI) (aC (vS rI) aN))))) (fun t => m_law_axles t.1 t.2.1 t.2.2.1 t.2.2.2.1 t.2.2.2.2.1) (resF (oL rI))) := by
  refine fn_ok (k := 0) F sc_law_axles (ars_cons (ars_cons (ars_cons (ars_cons (ars_cons ars_nil))))) (fun _ => rfl) ?_
  rintro B ⟨ds_1, on_1, many_1, least_1, spread_1, ⟨⟩⟩
  exact b_law_axles G  B ds_1 on_1 many_1 least_1 spread_1
theorem k_law_axles {d : Dc} (G : Facts d) {fd : FuncData} (F : FunD d.K "_law_axles" "_law_axles" (defArgs s_law_axles) (defBody s_law_axles) (defScope s_law_axles) [] [] (He.ga d.K "_law_axles") fd) : K_law_axles d := fun N sc K h =>
  fk_of (o_law_axles G  F) G.g_law_axles F.kp (F.bindsN fun _ _ _ _ _ _ us hl => match us, hl with | [_, _, _, _, _], _ => rfl) h
end K44
set_option Elab.async false
set_option linter.all false
set_option maxRecDepth 100000
namespace K44
open PySem PySem.Spec PyProof.Rows L2 L2.T

def m_law_over_bottom (numbers_1 : (List Int)) (bottom_1 : Int) : Option (List (Int × Int)) :=
  lcM (fun _ => some true) (fun one_1 => m_law_ratio one_1 bottom_1) numbers_1
abbrev s_law_over_bottom : Stmt := top 32
theorem sc_law_over_bottom : FnScope ["numbers", "bottom", "one"] ["numbers", "bottom"] (defScope s_law_over_bottom) := ⟨rfl, rfl, rfl, by decide +kernel, rfl, by decide +kernel, by decide +kernel⟩
set_option maxHeartbeats 4000000 in
theorem b_law_over_bottom {d : Dc} (G : Facts d) (K_law_ratio : K_law_ratio d) (B : Bs) (numbers_1 : (List Int)) (bottom_1 : Int) : Sx (d.cc ["numbers", "bottom", "one"] (defScope s_law_over_bottom) 2) B [.sh (rL rI) numbers_1, .sh rI bottom_1, .no] (defBody s_law_over_bottom) (m_law_over_bottom numbers_1 bottom_1) (pR (d.cc ["numbers", "bottom", "one"] (defScope s_law_over_bottom) 2) B (resF (oL (rP rI rI)))) := by
  replace K_law_ratio := K_law_ratio ["numbers", "bottom", "one"] (defScope s_law_over_bottom) 2 (by decide)
  unfold m_law_over_bottom
  exact sx_retF (ex_lc (m := some numbers_1) (r := rI) (q := (rP rI rI)) (c := fun _ => some true) (f := fun one_1 => m_law_ratio one_1 bottom_1) [("one", 2)] (by kernel_rfl) (ii_listS (ex_var (r := (rL rI)) (x := numbers_1) 0)) (gt_name 2) (fun _ => ts_nil) (fun one_1 => ex_call0 (K_law_ratio.blk _) (ea_cons0 (ex_var (r := rI) (x := one_1) 2) (ea_cons0 (ex_var (r := rI) (x := bottom_1) 1) (ea_nil))) (alS (alS (fun _ _ _ _ _ => al0)))))
def K_law_over_bottom (d : Dc) : Prop := ∀ (N : List Str) (sc : Scope) (K : Nat), 3 ≤ K → Fk (d.cc N sc K) "_law_over_bottom" 2 (aC (vS (rL rI)) (aC (vS rI) aN)) (fun t => m_law_over_bottom t.1 t.2.1) (resF (oL (rP rI rI)))
theorem o_law_over_bottom {d : Dc} (G : Facts d) (K_law_ratio : K_law_ratio d) {fd : FuncData} {dvs : List V} (F : FunD d.K "_law_over_bottom" "_law_over_bottom" (defArgs s_law_over_bottom) (defBody s_law_over_bottom) (defScope s_law_over_bottom) dvs [] (He.ga d.K "_law_over_bottom") fd) : FnOk d.P d.w d.K d.mg d.base CX0 3 (He.ga d.K "_law_over_bottom") fd ["numbers", "bottom"] (spT d.K (aC (vS (rL rI)) (aC (vS rI) aN)) (fun t => m_law_over_bottom t.1 t.2.1) (resF (oL (rP rI rI)))) := by
  refine fn_ok (k := 2) F sc_law_over_bottom (ars_cons (ars_cons ars_nil)) (fun _ => rfl) ?_
  rintro B ⟨numbers_1, bottom_1, ⟨⟩⟩
  exact b_law_over_bottom G K_law_ratio B numbers_1 bottom_1
theorem k_law_over_bottom {d : Dc} (G : Facts d) (K_law_ratio : K_law_ratio d) {fd : FuncData} (F : FunD d.K "_law_over_bottom" "_law_over_bottom" (defArgs s_law_over_bottom) (defBody s_law_over_bottom) (defScope s_law_over_bottom) [] [] (He.ga d.K "_law_over_bottom") fd) : K_law_over_bottom d := fun N sc K h =>
  fk_of (o_law_over_bottom G K_law_ratio F) G.g_law_over_bottom F.kp (F.bindsN fun _ _ _ _ _ _ us hl => match us, hl with | [_, _], _ => rfl) h
end K44
set_option Elab.async false
set_option linter.all false
set_option maxRecDepth 100000
namespace K44
open PySem PySem.Spec PyProof.Rows L2 L2.T

def m_law_stand_b1 (tread_1 : Int) (length_1 : Int) (shift_1 : Int) (s_1 : Int × Int) (spot_1 : Int) : Option (Out (Int × Int) (Int × Int) (Option (Int × Int))) :=
  (some (spot_1 + shift_1)).bind (fun x_1 => bIf (some (decide (x_1 < (-tread_1)))) (((some (1 : Int)).bind (fun y => some (s_1.1 + y))).bind (fun before_2 => some (Out.nx (before_2, s_1.2)))) (bIf (bAnd (some (decide (tread_1 ≤ x_1))) (some (decide (x_1 ≤ (length_1 - tread_1))))) (((some (1 : Int)).bind (fun y => some (s_1.2 + y))).bind (fun on_2 => some (Out.nx (s_1.1, on_2)))) (bIf (some (decide (x_1 ≤ (length_1 + tread_1)))) (((some none).map Lv.rt).map Out.lv) (some (Out.nx (s_1.1, s_1.2))))))
def m_law_stand (spots_1 : (List Int)) (tread_1 : Int) (length_1 : Int) (shift_1 : Int) : Option (Option (Int × Int)) :=
  (some (0 : Int)).bind (fun before_1 => (some (0 : Int)).bind (fun on_1 => loR ((some spots_1).bind (fun xs => forL (m_law_stand_b1 tread_1 length_1 shift_1) xs (before_1, on_1))) (fun s_2 => some (some (s_2.1, (s_2.1 + s_2.2))))))
abbrev s_law_stand : Stmt := top 33
theorem sc_law_stand : FnScope ["spots", "tread", "length", "shift", "before", "on", "spot", "x"] ["spots", "tread", "length", "shift"] (defScope s_law_stand) := ⟨rfl, rfl, rfl, by decide +kernel, rfl, by decide +kernel, by decide +kernel⟩
set_option maxHeartbeats 4000000 in
theorem b_law_stand {d : Dc} (G : Facts d) (B : Bs) (spots_1 : (List Int)) (tread_1 : Int) (length_1 : Int) (shift_1 : Int) : Sx (d.cc ["spots", "tread", "length", "shift", "before", "on", "spot", "x"] (defScope s_law_stand) 0) B [.sh (rL rI) spots_1, .sh rI tread_1, .sh rI length_1, .sh rI shift_1, .no, .no, .no, .no] (defBody s_law_stand) (m_law_stand spots_1 tread_1 length_1 shift_1) (pR (d.cc ["spots", "tread", "length", "shift", "before", "on", "spot", "x"] (defScope s_law_stand) 0) B (resS (rO (rP rI rI)))) := by
  unfold m_law_stand
  refine sx_bind 4 (ex_int) (fun before_1 => ?_)
  refine sx_bind 5 (ex_int) (fun on_1 => ?_)
  refine sx_for (mi := some spots_1) (s0 := (before_1, on_1)) (f := (m_law_stand_b1 tread_1 length_1 shift_1)) (fun s_1 => [.sh (rL rI) spots_1, .sh rI tread_1, .sh rI length_1, .sh rI shift_1, .sh rI s_1.1, .sh rI s_1.2, .no, .no]) (ii_listS (ex_var (r := (rL rI)) (x := spots_1) 0)) (gt_name 6) (.s (.s (.s (.s (.s (.s (.s (.s (.n)))))))) : Wk [.sh (rL rI) spots_1, .sh rI tread_1, .sh rI length_1, .sh rI shift_1, .sh rI before_1, .sh rI on_1, .no, .no] [.sh (rL rI) spots_1, .sh rI tread_1, .sh rI length_1, .sh rI shift_1, .sh rI before_1, .sh rI on_1, .no, .no]) ?_ (fun s_2 => ?_)
  · intro s_1 spot_1
    unfold m_law_stand_b1
    refine sx_bind 7 (ex_bin0 o_add (ex_var (r := rI) (x := spot_1) 6) (ex_var (r := rI) (x := shift_1) 3)) (fun x_1 => ?_)
    refine sx_ifE (tt_cmp0 o_lt (ex_var (r := rI) (x := x_1) 7) (ex_neg0 (ex_var (r := rI) (x := tread_1) 1))) ?_ ?_
    · refine sx_aug (x := s_1.1) 4 io_add (ex_int) (fun before_2 => ?_)
      exact sx_nilO (.s (.s (.s (.s (.s (.s (.d (.d (.n)))))))) : Wk [.sh (rL rI) spots_1, .sh rI tread_1, .sh rI length_1, .sh rI shift_1, .sh rI before_2, .sh rI s_1.2, .sh rI spot_1, .sh rI x_1] [.sh (rL rI) spots_1, .sh rI tread_1, .sh rI length_1, .sh rI shift_1, .sh rI before_2, .sh rI s_1.2, .no, .no])
    · refine sx_ifE (tt_w (tw_and (tt_cmp0 o_le (ex_var (r := rI) (x := tread_1) 1) (ex_var (r := rI) (x := x_1) 7)) (tw_and1 (tt_cmp0 o_le (ex_var (r := rI) (x := x_1) 7) (ex_bin0 o_sub (ex_var (r := rI) (x := length_1) 2) (ex_var (r := rI) (x := tread_1) 1)))))) ?_ ?_
      · refine sx_aug (x := s_1.2) 5 io_add (ex_int) (fun on_2 => ?_)
        exact sx_nilO (.s (.s (.s (.s (.s (.s (.d (.d (.n)))))))) : Wk [.sh (rL rI) spots_1, .sh rI tread_1, .sh rI length_1, .sh rI shift_1, .sh rI s_1.1, .sh rI on_2, .sh rI spot_1, .sh rI x_1] [.sh (rL rI) spots_1, .sh rI tread_1, .sh rI length_1, .sh rI shift_1, .sh rI s_1.1, .sh rI on_2, .no, .no])
      · refine sx_ifE (tt_cmp0 o_le (ex_var (r := rI) (x := x_1) 7) (ex_bin0 o_add (ex_var (r := rI) (x := length_1) 2) (ex_var (r := rI) (x := tread_1) 1))) ?_ ?_
        · refine sx_lv ?_
          refine sx_rt ?_
          exact sx_ret (ex_non (r := (rP rI rI)))
        · exact sx_nilO (.s (.s (.s (.s (.s (.s (.d (.d (.n)))))))) : Wk [.sh (rL rI) spots_1, .sh rI tread_1, .sh rI length_1, .sh rI shift_1, .sh rI s_1.1, .sh rI s_1.2, .sh rI spot_1, .sh rI x_1] [.sh (rL rI) spots_1, .sh rI tread_1, .sh rI length_1, .sh rI shift_1, .sh rI s_1.1, .sh rI s_1.2, .no, .no])
  exact sx_ret (ex_some nnP (ex_tup20 (ea_cons0 (ex_var (r := rI) (x := s_2.1) 4) (ea_cons0 (ex_bin0 o_add (ex_var (r := rI) (x := s_2.1) 4) (ex_var (r := rI) (x := s_2.2) 5)) (ea_nil)))))
def K_law_stand (d : Dc) : Prop := ∀ (N : List Str) (sc : Scope) (K : Nat), 1 ≤ K → Fk (d.cc N sc K) "_law_stand" 4 (aC (vS (rL rI)) (aC (vS rI) (aC (vS rI) (aC (vS rI) aN)))) (fun t => m_law_stand t.1 t.2.1 t.2.2.1 t.2.2.2.1) (resS (rO (rP rI rI)))
theorem o_law_stand {d : Dc} (G : Facts d) {fd : FuncData} {dvs : List V} (F : FunD d.K "_law_stand" "_law_stand" (defArgs s_law_stand) (defBody s_law_stand) (defScope s_law_stand) dvs [] (He.ga d.K "_law_stand") fd) : FnOk d.P d.w d.K d.mg d.base CX0 1 (He.ga d.K "_law_stand") fd ["spots", "tread", "length", "shift"] (spT d.K (aC (vS (rL rI)) (aC (vS rI) (aC (vS rI) (aC (vS rI) aN)))) (fun t => m_law_stand t.1 t.2.1 t.2.2.1 t.2.2.2.1) (resS (rO (rP rI rI)))) := by
  refine fn_ok (k := 0) F sc_law_stand (ars_cons (ars_cons (ars_cons (ars_cons ars_nil)))) (fun _ => rfl) ?_
  rintro B ⟨spots_1, tread_1, length_1, shift_1, ⟨⟩⟩
  exact b_law_stand G  B spots_1 tread_1 length_1 shift_1
theorem k_law_stand {d : Dc} (G : Facts d) {fd : FuncData} (F : FunD d.K "_law_stand" "_law_stand" (defArgs s_law_stand) (defBody s_law_stand) (defScope s_law_stand) [] [] (He.ga d.K "_law_stand") fd) : K_law_stand d := fun N sc K h =>
  fk_of (o_law_stand G  F) G.g_law_stand F.kp (F.bindsN fun _ _ _ _ _ _ us hl => match us, hl with | [_, _, _, _], _ => rfl) h
end K44
set_option Elab.async false
set_option linter.all false
set_option maxRecDepth 100000
namespace K44
open PySem PySem.Spec PyProof.Rows L2 L2.T

def m_law_shifts_b1 (s_2 : List Int) (one_1 : Int) : Option (List Int) :=
  ((some one_1).bind (fun k => keyG s_2 k)).bind (fun known_2 => some known_2)
def m_law_shifts_b2 (tread_1 : Int) (length_1 : Int) (s_1 : List Int) (spot_1 : Int) : Option (List Int) :=
  ((some ([((-spot_1) - tread_1), ((-spot_1) + tread_1), ((length_1 - spot_1) - tread_1), ((length_1 - spot_1) + tread_1)])).bind (fun xs => forM (m_law_shifts_b1) xs s_1)).bind (fun s_3 => some s_3)
def m_law_shifts_b3 (ends_1 : (List Int)) (s_5 : (List (Int × Int × Int))) (k_1 : Int) : Option ((List (Int × Int × Int))) :=
  (((b2 (atG ends_1 k_1) (b2 (atG ends_1 k_1) (b2 (atG ends_1 k_1) (some ()) (fun x y => some (x, y))) (fun x y => some (x, y))) (fun x y => some (x, y))).map (fun t => (t.1, t.2.1, t.2.2.1))).bind (fun y => appG s_5 y)).bind (fun out_2 => bIf (some (decide ((k_1 + (1 : Int)) < (ends_1.length : Int)))) ((((b2 (b2 (b2 (atG ends_1 k_1) (atG ends_1 (k_1 + (1 : Int))) (fun x y => some (x + y))) (some (2 : Int)) divG) (b2 (atG ends_1 k_1) (b2 (atG ends_1 (k_1 + (1 : Int))) (some ()) (fun x y => some (x, y))) (fun x y => some (x, y))) (fun x y => some (x, y))).map (fun t => (t.1, t.2.1, t.2.2.1))).bind (fun y => appG out_2 y)).bind (fun out_3 => some out_3)) (some out_2))
def m_law_shifts (spots_1 : (List Int)) (tread_1 : Int) (length_1 : Int) : Option (List (Int × Int × Int)) :=
  (some ([])).bind (fun known_1 => ((some spots_1).bind (fun xs => forM (m_law_shifts_b2 tread_1 length_1) xs known_1)).bind (fun s_4 => (some (srtI s_4)).bind (fun ends_1 => (b2 ((b2 (b2 (atG ends_1 (0 : Int)) (some (2 : Int)) (fun x y => some (x - y))) (b2 (b2 (atG ends_1 (0 : Int)) (some (2 : Int)) (fun x y => some (x - y))) (b2 (atG ends_1 (0 : Int)) (some ()) (fun x y => some (x, y))) (fun x y => some (x, y))) (fun x y => some (x, y))).map (fun t => (t.1, t.2.1, t.2.2.1))) (some []) (fun x y => some (x :: y))).bind (fun out_1 => ((rgG 0 (ends_1.length : Int)).bind (fun xs => forM (m_law_shifts_b3 ends_1) xs out_1)).bind (fun s_6 => (((b2 (b2 (atG ends_1 (-(1 : Int))) (some (2 : Int)) (fun x y => some (x + y))) (b2 (atG ends_1 (-(1 : Int))) (b2 (b2 (atG ends_1 (-(1 : Int))) (some (2 : Int)) (fun x y => some (x + y))) (some ()) (fun x y => some (x, y))) (fun x y => some (x, y))) (fun x y => some (x, y))).map (fun t => (t.1, t.2.1, t.2.2.1))).bind (fun y => appG s_6 y)).bind (fun out_4 => some out_4))))))
abbrev s_law_shifts : Stmt := top 34
theorem sc_law_shifts : FnScope ["spots", "tread", "length", "known", "spot", "ends", "out", "k", "one"] ["spots", "tread", "length"] (defScope s_law_shifts) := ⟨rfl, rfl, rfl, by decide +kernel, rfl, by decide +kernel, by decide +kernel⟩
set_option maxHeartbeats 4000000 in
theorem b_law_shifts {d : Dc} (G : Facts d) (B : Bs) (spots_1 : (List Int)) (tread_1 : Int) (length_1 : Int) : Sx (d.cc ["spots", "tread", "length", "known", "spot", "ends", "out", "k", "one"] (defScope s_law_shifts) 0) B [.sh (rL rI) spots_1, .sh rI tread_1, .sh rI length_1, .no, .no, .no, .no, .no, .no] (defBody s_law_shifts) (m_law_shifts spots_1 tread_1 length_1) (pR (d.cc ["spots", "tread", "length", "known", "spot", "ends", "out", "k", "one"] (defScope s_law_shifts) 0) B (resF (oL (rP3 rI rI rI)))) := by
  unfold m_law_shifts
  refine sx_bindF 3 (ex_dic0) (fun known_1 => ?_)
  refine sx_forM (mi := some spots_1) (s0 := known_1) (f := (m_law_shifts_b2 tread_1 length_1)) (fun s_1 => [.sh (rL rI) spots_1, .sh rI tread_1, .sh rI length_1, .ow oK s_1, .no, .no, .no, .no, .no]) (ii_listS (ex_var (r := (rL rI)) (x := spots_1) 0)) (gt_name 4) (.s (.s (.s (.s (.s (.s (.s (.s (.s (.n))))))))) : Wk [.sh (rL rI) spots_1, .sh rI tread_1, .sh rI length_1, .ow oK known_1, .no, .no, .no, .no, .no] [.sh (rL rI) spots_1, .sh rI tread_1, .sh rI length_1, .ow oK known_1, .no, .no, .no, .no, .no]) ?_ (fun s_4 => ?_)
  · intro s_1 spot_1
    unfold m_law_shifts_b2
    refine sx_forM (mi := some ([((-spot_1) - tread_1), ((-spot_1) + tread_1), ((length_1 - spot_1) - tread_1), ((length_1 - spot_1) + tread_1)])) (s0 := s_1) (f := (m_law_shifts_b1)) (fun s_2 => [.sh (rL rI) spots_1, .sh rI tread_1, .sh rI length_1, .ow oK s_2, .sh rI spot_1, .no, .no, .no, .no]) (ii_listS (ex_fs (ex_lst0 (el_cons0 (ex_bin0 o_sub (ex_neg0 (ex_var (r := rI) (x := spot_1) 4)) (ex_var (r := rI) (x := tread_1) 1)) (el_cons0 (ex_bin0 o_add (ex_neg0 (ex_var (r := rI) (x := spot_1) 4)) (ex_var (r := rI) (x := tread_1) 1)) (el_cons0 (ex_bin0 o_sub (ex_bin0 o_sub (ex_var (r := rI) (x := length_1) 2) (ex_var (r := rI) (x := spot_1) 4)) (ex_var (r := rI) (x := tread_1) 1)) (el_cons0 (ex_bin0 o_add (ex_bin0 o_sub (ex_var (r := rI) (x := length_1) 2) (ex_var (r := rI) (x := spot_1) 4)) (ex_var (r := rI) (x := tread_1) 1)) (el_nil)))))))) (gt_name 8) (.s (.s (.s (.s (.s (.s (.s (.s (.s (.n))))))))) : Wk [.sh (rL rI) spots_1, .sh rI tread_1, .sh rI length_1, .ow oK s_1, .sh rI spot_1, .no, .no, .no, .no] [.sh (rL rI) spots_1, .sh rI tread_1, .sh rI length_1, .ow oK s_1, .sh rI spot_1, .no, .no, .no, .no]) ?_ (fun s_3 => ?_)
    · intro s_2 one_1
      unfold m_law_shifts_b1
      refine sx_key (xs := s_2) 3 (ex_var (r := rI) (x := one_1) 8) (fun known_2 => ?_)
      exact sx_nil (.s (.s (.s (.s (.s (.s (.s (.s (.d (.n))))))))) : Wk [.sh (rL rI) spots_1, .sh rI tread_1, .sh rI length_1, .ow oK known_2, .sh rI spot_1, .no, .no, .no, .sh rI one_1] [.sh (rL rI) spots_1, .sh rI tread_1, .sh rI length_1, .ow oK known_2, .sh rI spot_1, .no, .no, .no, .no])
    exact sx_nil (.s (.s (.s (.s (.d (.s (.s (.s (.s (.n))))))))) : Wk [.sh (rL rI) spots_1, .sh rI tread_1, .sh rI length_1, .ow oK s_3, .sh rI spot_1, .no, .no, .no, .no] [.sh (rL rI) spots_1, .sh rI tread_1, .sh rI length_1, .ow oK s_3, .no, .no, .no, .no, .no])
  refine sx_bind 5 (ex_fs (ex_callBF (m := some (s_4, ())) c_sorted G.f_sorted b_sorted (ea_cons0 (ex_fl (ex_keys (xs := s_4) 3 8 [("one", 8)] (by kernel_rfl))) (ea_nil)))) (fun ends_1 => ?_)
  refine sx_bindF 6 (ex_lst (el_cons (ex_tup3 (ea_cons (ex_bin o_sub (ex_ix0 (ex_q (ex_var (r := (rL rI)) (x := ends_1) 5)) (ex_int)) (ex_int)) (ea_cons (ex_bin o_sub (ex_ix0 (ex_q (ex_var (r := (rL rI)) (x := ends_1) 5)) (ex_int)) (ex_int)) (ea_cons (ex_ix0 (ex_q (ex_var (r := (rL rI)) (x := ends_1) 5)) (ex_int)) (ea_nil))))) (el_nil)) (ln_le (ln_cons ln_nil) rfl)) (fun out_1 => ?_)
  refine sx_forM (mi := rgG 0 (ends_1.length : Int)) (s0 := out_1) (f := (m_law_shifts_b3 ends_1)) (fun s_5 => [.sh (rL rI) spots_1, .sh rI tread_1, .sh rI length_1, .ow oK s_4, .no, .sh (rL rI) ends_1, .ow (oL (rP3 rI rI rI)) s_5, .no, .no]) (ii_rng1 (m := (some (ends_1.length : Int))) G.f_range (ex_callB0 c_len G.f_len b_len (ea_cons0 (ex_q (ex_var (r := (rL rI)) (x := ends_1) 5)) (ea_nil)))) (gt_name 7) (.s (.s (.s (.s (.s (.s (.s (.s (.s (.n))))))))) : Wk [.sh (rL rI) spots_1, .sh rI tread_1, .sh rI length_1, .ow oK s_4, .no, .sh (rL rI) ends_1, .ow (oL (rP3 rI rI rI)) out_1, .no, .no] [.sh (rL rI) spots_1, .sh rI tread_1, .sh rI length_1, .ow oK s_4, .no, .sh (rL rI) ends_1, .ow (oL (rP3 rI rI rI)) out_1, .no, .no]) ?_ (fun s_6 => ?_)
  · intro s_5 k_1
    unfold m_law_shifts_b3
    refine sx_app (xs := s_5) 6 (ex_tup3 (ea_cons (ex_ix0 (ex_q (ex_var (r := (rL rI)) (x := ends_1) 5)) (ex_var (r := rI) (x := k_1) 7)) (ea_cons (ex_ix0 (ex_q (ex_var (r := (rL rI)) (x := ends_1) 5)) (ex_var (r := rI) (x := k_1) 7)) (ea_cons (ex_ix0 (ex_q (ex_var (r := (rL rI)) (x := ends_1) 5)) (ex_var (r := rI) (x := k_1) 7)) (ea_nil))))) (fun out_2 => ?_)
    refine sx_ifE (tt_cmp0 o_lt (ex_bin0 o_add (ex_var (r := rI) (x := k_1) 7) (ex_int)) (ex_callB0 c_len G.f_len b_len (ea_cons0 (ex_q (ex_var (r := (rL rI)) (x := ends_1) 5)) (ea_nil)))) ?_ ?_
    · refine sx_app (xs := out_2) 6 (ex_tup3 (ea_cons (ex_bin o_div (ex_bin o_add (ex_ix0 (ex_q (ex_var (r := (rL rI)) (x := ends_1) 5)) (ex_var (r := rI) (x := k_1) 7)) (ex_ix0 (ex_q (ex_var (r := (rL rI)) (x := ends_1) 5)) (ex_bin0 o_add (ex_var (r := rI) (x := k_1) 7) (ex_int)))) (ex_int)) (ea_cons (ex_ix0 (ex_q (ex_var (r := (rL rI)) (x := ends_1) 5)) (ex_var (r := rI) (x := k_1) 7)) (ea_cons (ex_ix0 (ex_q (ex_var (r := (rL rI)) (x := ends_1) 5)) (ex_bin0 o_add (ex_var (r := rI) (x := k_1) 7) (ex_int))) (ea_nil))))) (fun out_3 => ?_)
      exact sx_nil (.s (.s (.s (.s (.s (.s (.s (.d (.s (.n))))))))) : Wk [.sh (rL rI) spots_1, .sh rI tread_1, .sh rI length_1, .ow oK s_4, .no, .sh (rL rI) ends_1, .ow (oL (rP3 rI rI rI)) out_3, .sh rI k_1, .no] [.sh (rL rI) spots_1, .sh rI tread_1, .sh rI length_1, .ow oK s_4, .no, .sh (rL rI) ends_1, .ow (oL (rP3 rI rI rI)) out_3, .no, .no])
    · exact sx_nil (.s (.s (.s (.s (.s (.s (.s (.d (.s (.n))))))))) : Wk [.sh (rL rI) spots_1, .sh rI tread_1, .sh rI length_1, .ow oK s_4, .no, .sh (rL rI) ends_1, .ow (oL (rP3 rI rI rI)) out_2, .sh rI k_1, .no] [.sh (rL rI) spots_1, .sh rI tread_1, .sh rI length_1, .ow oK s_4, .no, .sh (rL rI) ends_1, .ow (oL (rP3 rI rI rI)) out_2, .no, .no])
  refine sx_app (xs := s_6) 6 (ex_tup3 (ea_cons (ex_bin o_add (ex_ix0 (ex_q (ex_var (r := (rL rI)) (x := ends_1) 5)) (ex_neg0 (ex_int))) (ex_int)) (ea_cons (ex_ix0 (ex_q (ex_var (r := (rL rI)) (x := ends_1) 5)) (ex_neg0 (ex_int))) (ea_cons (ex_bin o_add (ex_ix0 (ex_q (ex_var (r := (rL rI)) (x := ends_1) 5)) (ex_neg0 (ex_int))) (ex_int)) (ea_nil))))) (fun out_4 => ?_)
  exact sx_retO 6
def K_law_shifts (d : Dc) : Prop := ∀ (N : List Str) (sc : Scope) (K : Nat), 1 ≤ K → Fk (d.cc N sc K) "_law_shifts" 3 (aC (vS (rL rI)) (aC (vS rI) (aC (vS rI) aN))) (fun t => m_law_shifts t.1 t.2.1 t.2.2.1) (resF (oL (rP3 rI rI rI)))
theorem o_law_shifts {d : Dc} (G : Facts d) {fd : FuncData} {dvs : List V} (F : FunD d.K "_law_shifts" "_law_shifts" (defArgs s_law_shifts) (defBody s_law_shifts) (defScope s_law_shifts) dvs [] (He.ga d.K "_law_shifts") fd) : FnOk d.P d.w d.K d.mg d.base CX0 1 (He.ga d.K "_law_shifts") fd ["spots", "tread", "length"] (spT d.K (aC (vS (rL rI)) (aC (vS rI) (aC (vS rI) aN))) (fun t => m_law_shifts t.1 t.2.1 t.2.2.1) (resF (oL (rP3 rI rI rI)))) := by
  refine fn_ok (k := 0) F sc_law_shifts (ars_cons (ars_cons (ars_cons ars_nil))) (fun _ => rfl) ?_
  rintro B ⟨spots_1, tread_1, length_1, ⟨⟩⟩
  exact b_law_shifts G  B spots_1 tread_1 length_1
theorem k_law_shifts {d : Dc} (G : Facts d) {fd : FuncData} (F : FunD d.K "_law_shifts" "_law_shifts" (defArgs s_law_shifts) (defBody s_law_shifts) (defScope s_law_shifts) [] [] (He.ga d.K "_law_shifts") fd) : K_law_shifts d := fun N sc K h =>
  fk_of (o_law_shifts G  F) G.g_law_shifts F.kp (F.bindsN fun _ _ _ _ _ _ us hl => match us, hl with | [_, _, _], _ => rfl) h
end K44
set_option Elab.async false
set_option linter.all false
set_option maxRecDepth 100000
namespace K44
open PySem PySem.Spec PyProof.Rows L2 L2.T

def m_law_stops_b1 (spots_1 : (List Int)) (tread_1 : Int) (length_1 : Int) (s_1 : (List (List Int))) (shift_1 : (Int × Int × Int)) : Option (Out ((List (List Int))) ((List (List Int))) (List (List Int))) :=
  (m_law_stand spots_1 tread_1 length_1 shift_1.1).bind (fun stand_1 => bIf (bOr (some stand_1.isNone) (b2 (stand_1.map (fun x => x.1)) (stand_1.map (fun x => x.2)) (fun x y => some (decide (x = y))))) ((some (Lv.ct s_1)).map Out.lv) (bIf (bAnd (some (!decide (s_1 = []))) (bAnd (b2 (b2 ((some (-(1 : Int))).bind (fun j => atG s_1 j)) (some (0 : Int)) atG) (stand_1.map (fun x => x.1)) (fun x y => some (decide (x = y)))) (b2 (b2 ((some (-(1 : Int))).bind (fun j => atG s_1 j)) (some (1 : Int)) atG) (stand_1.map (fun x => x.2)) (fun x y => some (decide (x = y)))))) (((some (-(1 : Int))).bind (fun i => ixN s_1.length i)).bind (fun jr_1 => (setT s_1 jr_1 (some shift_1.2.2) (some (3 : Int))).bind (fun out_1 => some (Out.nx out_1)))) (((b2 (stand_1.map (fun x => x.1)) (b2 (stand_1.map (fun x => x.2)) (b2 (some shift_1.2.1) (b2 (some shift_1.2.2) (some []) (fun x y => some (x :: y))) (fun x y => some (x :: y))) (fun x y => some (x :: y))) (fun x y => some (x :: y))).bind (fun y => appG s_1 y)).bind (fun out_2 => some (Out.nx out_2)))))
def m_law_stops (spots_1 : (List Int)) (tread_1 : Int) (length_1 : Int) : Option (List (List Int)) :=
  loR ((m_law_shifts spots_1 tread_1 length_1).bind (fun xs => forL (m_law_stops_b1 spots_1 tread_1 length_1) xs ([]))) (fun s_2 => some s_2)
abbrev s_law_stops : Stmt := top 35
theorem sc_law_stops : FnScope ["spots", "tread", "length", "out", "shift", "left", "right", "stand", "last"] ["spots", "tread", "length"] (defScope s_law_stops) := ⟨rfl, rfl, rfl, by decide +kernel, rfl, by decide +kernel, by decide +kernel⟩
set_option maxHeartbeats 4000000 in
theorem b_law_stops {d : Dc} (G : Facts d) (K_law_shifts : K_law_shifts d) (K_law_stand : K_law_stand d) (B : Bs) (spots_1 : (List Int)) (tread_1 : Int) (length_1 : Int) : Sx (d.cc ["spots", "tread", "length", "out", "shift", "left", "right", "stand", "last"] (defScope s_law_stops) 1) B [.sh (rL rI) spots_1, .sh rI tread_1, .sh rI length_1, .no, .no, .no, .no, .no, .no] (defBody s_law_stops) (m_law_stops spots_1 tread_1 length_1) (pR (d.cc ["spots", "tread", "length", "out", "shift", "left", "right", "stand", "last"] (defScope s_law_stops) 1) B (resS (rL (rL rI)))) := by
  replace K_law_shifts := K_law_shifts ["spots", "tread", "length", "out", "shift", "left", "right", "stand", "last"] (defScope s_law_stops) 1 (by decide)
  replace K_law_stand := K_law_stand ["spots", "tread", "length", "out", "shift", "left", "right", "stand", "last"] (defScope s_law_stops) 1 (by decide)
  unfold m_law_stops
  refine sx_letF 3 (ex_lst0 (r := (rL rI)) el_nil) ?_
  refine sx_tab0 (r := rI) 3 ?_
  refine sx_for (mi := m_law_shifts spots_1 tread_1 length_1) (s0 := []) (f := (m_law_stops_b1 spots_1 tread_1 length_1)) (fun s_1 => [.sh (rL rI) spots_1, .sh rI tread_1, .sh rI length_1, .ow2 none rI s_1, .no, .no, .no, .no, .no]) (ii_listS (ex_fs (ex_callF0 K_law_shifts (ea_cons0 (ex_var (r := (rL rI)) (x := spots_1) 0) (ea_cons0 (ex_var (r := rI) (x := tread_1) 1) (ea_cons0 (ex_var (r := rI) (x := length_1) 2) (ea_nil)))) (alS (alS (alS (fun _ _ _ _ _ => al0))))))) (gt_tri (gt_name 4) (gt_name 5) (gt_name 6)) (.s (.s (.s (.s (.s (.s (.s (.s (.s (.n))))))))) : Wk [.sh (rL rI) spots_1, .sh rI tread_1, .sh rI length_1, .ow2 none rI ([]), .no, .no, .no, .no, .no] [.sh (rL rI) spots_1, .sh rI tread_1, .sh rI length_1, .ow2 none rI ([]), .no, .no, .no, .no, .no]) ?_ (fun s_2 => ?_)
  · intro s_1 shift_1
    unfold m_law_stops_b1
    refine sx_bind 7 (ex_call0 K_law_stand (ea_cons0 (ex_var (r := (rL rI)) (x := spots_1) 0) (ea_cons0 (ex_var (r := rI) (x := tread_1) 1) (ea_cons0 (ex_var (r := rI) (x := length_1) 2) (ea_cons0 (ex_var (r := rI) (x := shift_1.1) 4) (ea_nil))))) (alS (alS (alS (alS (fun _ _ _ _ _ => al0)))))) (fun stand_1 => ?_)
    refine sx_ifO (tt_w (tw_or (tt_cmp0 o_isN (ex_var (r := (rO (rP rI rI))) (x := stand_1) 7) ex_unit) (tw_or1 (tt_cmp (o_eq dI) (ex_at0 (ex_get (ex_var (r := (rO (rP rI rI))) (x := stand_1) 7))) (ex_at1 (ex_get (ex_var (r := (rO (rP rI rI))) (x := stand_1) 7))))))) ?_ ?_
    · exact sx_cnt (.s (.s (.s (.s (.d (.d (.d (.d (.s (.n))))))))) : Wk [.sh (rL rI) spots_1, .sh rI tread_1, .sh rI length_1, .ow2 none rI s_1, .sh rI shift_1.1, .sh rI shift_1.2.1, .sh rI shift_1.2.2, .sh (rO (rP rI rI)) stand_1, .no] [.sh (rL rI) spots_1, .sh rI tread_1, .sh rI length_1, .ow2 none rI s_1, .no, .no, .no, .no, .no])
    · refine sx_ifE (tt_w (tw_and (tt_cmp0 (o_neH (dL (dL dI))) (ex_tab (r := rI) (xss := s_1) 3) (ex_hF (ex_lst0 (r := (rL rI)) el_nil))) (tw_and (tt_cmp (o_eq dI) (ex_ix (ex_qO (ex_row (xss := s_1) 3 (ex_neg0 (ex_int)))) (ex_int)) (ex_at0 (ex_get (ex_var (r := (rO (rP rI rI))) (x := stand_1) 7)))) (tw_and1 (tt_cmp (o_eq dI) (ex_ix (ex_qO (ex_row (xss := s_1) 3 (ex_neg0 (ex_int)))) (ex_int)) (ex_at1 (ex_get (ex_var (r := (rO (rP rI rI))) (x := stand_1) 7)))))))) ?_ ?_
      · refine sx_open (xss := s_1) 3 (fun ps_1 => ?_)
        refine sx_alias (xss := s_1) 8 3 (ex_neg0 (ex_int)) (fun jr_1 q_1 hq_1 => ?_)
        refine sx_setR (xss := s_1) 8 3 hq_1 (ex_var (r := rI) (x := shift_1.2.2) 6) (ex_int) (fun out_1 => ?_)
        exact sx_nilO (.s (.s (.s (.h (.d (.d (.d (.d (.d (.n))))))))) : Wk [.sh (rL rI) spots_1, .sh rI tread_1, .sh rI length_1, .ow2 (some ps_1) rI out_1, .sh rI shift_1.1, .sh rI shift_1.2.1, .sh rI shift_1.2.2, .sh (rO (rP rI rI)) stand_1, .rf q_1] [.sh (rL rI) spots_1, .sh rI tread_1, .sh rI length_1, .ow2 none rI out_1, .no, .no, .no, .no, .no])
      · refine sx_app2 (xss := s_1) 3 (ex_lst (el_cons (ex_at0 (ex_get (ex_var (r := (rO (rP rI rI))) (x := stand_1) 7))) (el_cons (ex_at1 (ex_get (ex_var (r := (rO (rP rI rI))) (x := stand_1) 7))) (el_cons (ex_var (r := rI) (x := shift_1.2.1) 5) (el_cons (ex_var (r := rI) (x := shift_1.2.2) 6) (el_nil))))) (ln_le (ln_cons (ln_cons (ln_cons (ln_cons ln_nil)))) rfl)) (fun out_2 => ?_)
        exact sx_nilO (.s (.s (.s (.s (.d (.d (.d (.d (.s (.n))))))))) : Wk [.sh (rL rI) spots_1, .sh rI tread_1, .sh rI length_1, .ow2 none rI out_2, .sh rI shift_1.1, .sh rI shift_1.2.1, .sh rI shift_1.2.2, .sh (rO (rP rI rI)) stand_1, .no] [.sh (rL rI) spots_1, .sh rI tread_1, .sh rI length_1, .ow2 none rI out_2, .no, .no, .no, .no, .no])
  refine sx_frz2 (xss := s_2) 3 ?_
  exact sx_ret (ex_var (r := (rL (rL rI))) (x := s_2) 3)
def K_law_stops (d : Dc) : Prop := ∀ (N : List Str) (sc : Scope) (K : Nat), 2 ≤ K → Fk (d.cc N sc K) "_law_stops" 3 (aC (vS (rL rI)) (aC (vS rI) (aC (vS rI) aN))) (fun t => m_law_stops t.1 t.2.1 t.2.2.1) (resS (rL (rL rI)))
theorem o_law_stops {d : Dc} (G : Facts d) (K_law_shifts : K_law_shifts d) (K_law_stand : K_law_stand d) {fd : FuncData} {dvs : List V} (F : FunD d.K "_law_stops" "_law_stops" (defArgs s_law_stops) (defBody s_law_stops) (defScope s_law_stops) dvs [] (He.ga d.K "_law_stops") fd) : FnOk d.P d.w d.K d.mg d.base CX0 2 (He.ga d.K "_law_stops") fd ["spots", "tread", "length"] (spT d.K (aC (vS (rL rI)) (aC (vS rI) (aC (vS rI) aN))) (fun t => m_law_stops t.1 t.2.1 t.2.2.1) (resS (rL (rL rI)))) := by
  refine fn_ok (k := 1) F sc_law_stops (ars_cons (ars_cons (ars_cons ars_nil))) (fun _ => rfl) ?_
  rintro B ⟨spots_1, tread_1, length_1, ⟨⟩⟩
  exact b_law_stops G K_law_shifts K_law_stand B spots_1 tread_1 length_1
theorem k_law_stops {d : Dc} (G : Facts d) (K_law_shifts : K_law_shifts d) (K_law_stand : K_law_stand d) {fd : FuncData} (F : FunD d.K "_law_stops" "_law_stops" (defArgs s_law_stops) (defBody s_law_stops) (defScope s_law_stops) [] [] (He.ga d.K "_law_stops") fd) : K_law_stops d := fun N sc K h =>
  fk_of (o_law_stops G K_law_shifts K_law_stand F) G.g_law_stops F.kp (F.bindsN fun _ _ _ _ _ _ us hl => match us, hl with | [_, _, _], _ => rfl) h
end K44
set_option Elab.async false
set_option linter.all false
set_option maxRecDepth 100000
namespace K44
open PySem PySem.Spec PyProof.Rows L2 L2.T

def m_law_labels_b1 (s_1 : (List Int)) (tie_1 : (Int × Int)) : Option ((List Int)) :=
  (atG s_1 tie_1.1).bind (fun one_1 => (atG s_1 tie_1.2).bind (fun two_1 => (some (if two_1 < one_1 then two_1 else one_1)).bind (fun low_1 => ((some s_1).bind (fun xs => lcM (fun _ => some true) (fun label_1 => bIf (bOr (some (decide (label_1 = one_1))) (some (decide (label_1 = two_1)))) (some low_1) (some label_1)) xs)).bind (fun labels_2 => some labels_2))))
def m_law_labels (count_1 : Int) (ties_1 : (List (Int × Int))) : Option (List Int) :=
  (rgG 0 (count_1 + (1 : Int))).bind (fun labels_1 => ((some ties_1).bind (fun xs => forM (m_law_labels_b1) xs labels_1)).bind (fun s_2 => some s_2))
abbrev s_law_labels : Stmt := top 36
theorem sc_law_labels : FnScope ["count", "ties", "labels", "tie", "one", "two", "low", "label"] ["count", "ties"] (defScope s_law_labels) := ⟨rfl, rfl, rfl, by decide +kernel, rfl, by decide +kernel, by decide +kernel⟩
set_option maxHeartbeats 4000000 in
theorem b_law_labels {d : Dc} (G : Facts d) (B : Bs) (count_1 : Int) (ties_1 : (List (Int × Int))) : Sx (d.cc ["count", "ties", "labels", "tie", "one", "two", "low", "label"] (defScope s_law_labels) 0) B [.sh rI count_1, .sh (rL (rP rI rI)) ties_1, .no, .no, .no, .no, .no, .no] (defBody s_law_labels) (m_law_labels count_1 ties_1) (pR (d.cc ["count", "ties", "labels", "tie", "one", "two", "low", "label"] (defScope s_law_labels) 0) B (resS (rL rI))) := by
  unfold m_law_labels
  refine sx_bind 2 (ex_fs (ex_listRg1 (m := (some (count_1 + (1 : Int)))) G.f_list G.f_range (ex_bin0 o_add (ex_var (r := rI) (x := count_1) 0) (ex_int)))) (fun labels_1 => ?_)
  refine sx_forM (mi := some ties_1) (s0 := labels_1) (f := (m_law_labels_b1)) (fun s_1 => [.sh rI count_1, .sh (rL (rP rI rI)) ties_1, .sh (rL rI) s_1, .no, .no, .no, .no, .no]) (ii_listS (ex_var (r := (rL (rP rI rI))) (x := ties_1) 1)) (gt_name 3) (.s (.s (.s (.s (.s (.s (.s (.s (.n)))))))) : Wk [.sh rI count_1, .sh (rL (rP rI rI)) ties_1, .sh (rL rI) labels_1, .no, .no, .no, .no, .no] [.sh rI count_1, .sh (rL (rP rI rI)) ties_1, .sh (rL rI) labels_1, .no, .no, .no, .no, .no]) ?_ (fun s_2 => ?_)
  · intro s_1 tie_1
    unfold m_law_labels_b1
    refine sx_bind 4 (ex_ix0 (ex_q (ex_var (r := (rL rI)) (x := s_1) 2)) (ex_at00 (ex_var (r := (rP rI rI)) (x := tie_1) 3))) (fun one_1 => ?_)
    refine sx_bind 5 (ex_ix0 (ex_q (ex_var (r := (rL rI)) (x := s_1) 2)) (ex_at10 (ex_var (r := (rP rI rI)) (x := tie_1) 3))) (fun two_1 => ?_)
    refine sx_bind 6 (ex_callB0 c_min2 G.f_min b_min (ea_cons0 (ex_var (r := rI) (x := one_1) 4) (ea_cons0 (ex_var (r := rI) (x := two_1) 5) (ea_nil)))) (fun low_1 => ?_)
    refine sx_lc 2 (mx := (some s_1)) (r := rI) (q := rI) (c := fun _ => some true) (f := fun label_1 => bIf (bOr (some (decide (label_1 = one_1))) (some (decide (label_1 = two_1)))) (some low_1) (some label_1)) [("label", 7)] (by kernel_rfl) (ii_listS (ex_var (r := (rL rI)) (x := s_1) 2)) (gt_name 7) (fun _ => ts_nil) (fun label_1 => ex_if (tt_w (tw_or (tt_cmp0 (o_eq dI) (ex_var (r := rI) (x := label_1) 7) (ex_var (r := rI) (x := one_1) 4)) (tw_or1 (tt_cmp0 (o_eq dI) (ex_var (r := rI) (x := label_1) 7) (ex_var (r := rI) (x := two_1) 5))))) (ex_var (r := rI) (x := low_1) 6) (ex_var (r := rI) (x := label_1) 7)) (fun labels_2 => ?_)
    exact sx_nil (.s (.s (.s (.d (.d (.d (.d (.s (.n)))))))) : Wk [.sh rI count_1, .sh (rL (rP rI rI)) ties_1, .sh (rL rI) labels_2, .sh (rP rI rI) tie_1, .sh rI one_1, .sh rI two_1, .sh rI low_1, .no] [.sh rI count_1, .sh (rL (rP rI rI)) ties_1, .sh (rL rI) labels_2, .no, .no, .no, .no, .no])
  exact sx_ret (ex_var (r := (rL rI)) (x := s_2) 2)
def K_law_labels (d : Dc) : Prop := ∀ (N : List Str) (sc : Scope) (K : Nat), 1 ≤ K → Fk (d.cc N sc K) "_law_labels" 2 (aC (vS rI) (aC (vS (rL (rP rI rI))) aN)) (fun t => m_law_labels t.1 t.2.1) (resS (rL rI))
theorem o_law_labels {d : Dc} (G : Facts d) {fd : FuncData} {dvs : List V} (F : FunD d.K "_law_labels" "_law_labels" (defArgs s_law_labels) (defBody s_law_labels) (defScope s_law_labels) dvs [] (He.ga d.K "_law_labels") fd) : FnOk d.P d.w d.K d.mg d.base CX0 1 (He.ga d.K "_law_labels") fd ["count", "ties"] (spT d.K (aC (vS rI) (aC (vS (rL (rP rI rI))) aN)) (fun t => m_law_labels t.1 t.2.1) (resS (rL rI))) := by
  refine fn_ok (k := 0) F sc_law_labels (ars_cons (ars_cons ars_nil)) (fun _ => rfl) ?_
  rintro B ⟨count_1, ties_1, ⟨⟩⟩
  exact b_law_labels G  B count_1 ties_1
theorem k_law_labels {d : Dc} (G : Facts d) {fd : FuncData} (F : FunD d.K "_law_labels" "_law_labels" (defArgs s_law_labels) (defBody s_law_labels) (defScope s_law_labels) [] [] (He.ga d.K "_law_labels") fd) : K_law_labels d := fun N sc K h =>
  fk_of (o_law_labels G  F) G.g_law_labels F.kp (F.bindsN fun _ _ _ _ _ _ us hl => match us, hl with | [_, _], _ => rfl) h
end K44
set_option Elab.async false
set_option linter.all false
set_option maxRecDepth 100000
namespace K44
open PySem PySem.Spec PyProof.Rows L2 L2.T

def m_law_is_sure (spots_1 : (List Int)) (tread_1 : Int) (length_1 : Int) : Option Bool :=
  ((m_law_stops spots_1 tread_1 length_1).bind (fun xs => lcM (fun _ => some true) (fun row_1 => (b2 (atG row_1 (0 : Int)) (b2 (atG row_1 (1 : Int)) (some ()) (fun x y => some (x, y))) (fun x y => some (x, y))).map (fun t => (t.1, t.2.1))) xs)).bind (fun ties_1 => (b2 ((m_law_labels (spots_1.length : Int) ties_1).bind (fun xs => some (xs.map (fun label_1 => (decide (label_1 = (0 : Int))))))) (some ()) (fun x y => some (x, y))).bind (fun t => some ((t.1.all id))))
abbrev s_law_is_sure : Stmt := top 37
theorem sc_law_is_sure : FnScope ["spots", "tread", "length", "ties", "row", "label"] ["spots", "tread", "length"] (defScope s_law_is_sure) := ⟨rfl, rfl, rfl, by decide +kernel, rfl, by decide +kernel, by decide +kernel⟩
set_option maxHeartbeats 4000000 in
theorem b_law_is_sure {d : Dc} (G : Facts d) (K_law_stops : K_law_stops d) (K_law_labels : K_law_labels d) (B : Bs) (spots_1 : (List Int)) (tread_1 : Int) (length_1 : Int) : Sx (d.cc ["spots", "tread", "length", "ties", "row", "label"] (defScope s_law_is_sure) 2) B [.sh (rL rI) spots_1, .sh rI tread_1, .sh rI length_1, .no, .no, .no] (defBody s_law_is_sure) (m_law_is_sure spots_1 tread_1 length_1) (pR (d.cc ["spots", "tread", "length", "ties", "row", "label"] (defScope s_law_is_sure) 2) B (resS rB)) := by
  replace K_law_stops := K_law_stops ["spots", "tread", "length", "ties", "row", "label"] (defScope s_law_is_sure) 2 (by decide)
  replace K_law_labels := K_law_labels ["spots", "tread", "length", "ties", "row", "label"] (defScope s_law_is_sure) 2 (by decide)
  unfold m_law_is_sure
  refine sx_lc 3 (mx := (m_law_stops spots_1 tread_1 length_1)) (r := (rL rI)) (q := (rP rI rI)) [("row", 4)] (by kernel_rfl) (ii_listS (ex_call0 K_law_stops (ea_cons0 (ex_var (r := (rL rI)) (x := spots_1) 0) (ea_cons0 (ex_var (r := rI) (x := tread_1) 1) (ea_cons0 (ex_var (r := rI) (x := length_1) 2) (ea_nil)))) (alS (alS (alS (fun _ _ _ _ _ => al0)))))) (gt_name 4) (fun _ => ts_nil) (fun row_1 => ex_tup2 (ea_cons (ex_ix0 (ex_q (ex_var (r := (rL rI)) (x := row_1) 4)) (ex_int)) (ea_cons (ex_ix0 (ex_q (ex_var (r := (rL rI)) (x := row_1) 4)) (ex_int)) (ea_nil)))) (fun ties_1 => ?_)
  exact sx_ret (ex_callB c_all G.f_all b_all (ea_cons (ex_fl (exF_of (ex_lc (m := (m_law_labels (spots_1.length : Int) ties_1)) (r := rI) (q := rB) (c := fun _ => some true) (f := fun label_1 => some (decide (label_1 = (0 : Int)))) [("label", 5)] (by kernel_rfl) (ii_listS (ex_call0 K_law_labels (ea_cons0 (ex_callB0 c_len G.f_len b_len (ea_cons0 (ex_q (ex_var (r := (rL rI)) (x := spots_1) 0)) (ea_nil))) (ea_cons0 (ex_var (r := (rL (rP rI rI))) (x := ties_1) 3) (ea_nil))) (alS (alS (fun _ _ _ _ _ => al0))))) (gt_name 5) (fun _ => ts_nil) (fun label_1 => ex_cmp0 (o_eq dI) (ex_var (r := rI) (x := label_1) 5) (ex_int))) (congrArg (Option.bind _) (funext fun _ => lcM_map _ _)))) (ea_nil)))
def K_law_is_sure (d : Dc) : Prop := ∀ (N : List Str) (sc : Scope) (K : Nat), 3 ≤ K → Fk (d.cc N sc K) "_law_is_sure" 3 (aC (vS (rL rI)) (aC (vS rI) (aC (vS rI) aN))) (fun t => m_law_is_sure t.1 t.2.1 t.2.2.1) (resS rB)
theorem o_law_is_sure {d : Dc} (G : Facts d) (K_law_stops : K_law_stops d) (K_law_labels : K_law_labels d) {fd : FuncData} {dvs : List V} (F : FunD d.K "_law_is_sure" "_law_is_sure" (defArgs s_law_is_sure) (defBody s_law_is_sure) (defScope s_law_is_sure) dvs [] (He.ga d.K "_law_is_sure") fd) : FnOk d.P d.w d.K d.mg d.base CX0 3 (He.ga d.K "_law_is_sure") fd ["spots", "tread", "length"] (spT d.K (aC (vS (rL rI)) (aC (vS rI) (aC (vS rI) aN))) (fun t => m_law_is_sure t.1 t.2.1 t.2.2.1) (resS rB)) := by
  refine fn_ok (k := 2) F sc_law_is_sure (ars_cons (ars_cons (ars_cons ars_nil))) (fun _ => rfl) ?_
  rintro B ⟨spots_1, tread_1, length_1, ⟨⟩⟩
  exact b_law_is_sure G K_law_stops K_law_labels B spots_1 tread_1 length_1
theorem k_law_is_sure {d : Dc} (G : Facts d) (K_law_stops : K_law_stops d) (K_law_labels : K_law_labels d) {fd : FuncData} (F : FunD d.K "_law_is_sure" "_law_is_sure" (defArgs s_law_is_sure) (defBody s_law_is_sure) (defScope s_law_is_sure) [] [] (He.ga d.K "_law_is_sure") fd) : K_law_is_sure d := fun N sc K h =>
  fk_of (o_law_is_sure G K_law_stops K_law_labels F) G.g_law_is_sure F.kp (F.bindsN fun _ _ _ _ _ _ us hl => match us, hl with | [_, _, _], _ => rfl) h
end K44
set_option Elab.async false
set_option linter.all false
set_option maxRecDepth 100000
namespace K44
open PySem PySem.Spec PyProof.Rows L2 L2.T

def m_law_critical_b1 (s_3 : List Int) (length_1 : Int) : Option (List Int) :=
  bIf (some (decide (length_1 > (0 : Int)))) (((some length_1).bind (fun k => keyG s_3 k)).bind (fun known_2 => some known_2)) (some s_3)
def m_law_critical_b2 (tread_1 : Int) (one_1 : Int) (s_2 : List Int) (two_1 : Int) : Option (List Int) :=
  ((b2 (b2 (some (two_1 - one_1)) (mulG (2 : Int) tread_1) (fun x y => some (x + y))) (b2 (b2 (some (two_1 - one_1)) (mulG (2 : Int) tread_1) (fun x y => some (x - y))) (some []) (fun x y => some (x :: y))) (fun x y => some (x :: y))).bind (fun xs => forM (m_law_critical_b1) xs s_2)).bind (fun s_4 => some s_4)
def m_law_critical_b3 (spots_1 : (List Int)) (tread_1 : Int) (s_1 : List Int) (one_1 : Int) : Option (List Int) :=
  ((some spots_1).bind (fun xs => forM (m_law_critical_b2 tread_1 one_1) xs s_1)).bind (fun s_5 => some s_5)
def m_law_critical (spots_1 : (List Int)) (tread_1 : Int) : Option (List Int) :=
  (some ([])).bind (fun known_1 => ((some spots_1).bind (fun xs => forM (m_law_critical_b3 spots_1 tread_1) xs known_1)).bind (fun s_6 => some (srtI s_6)))
abbrev s_law_critical : Stmt := top 38
theorem sc_law_critical : FnScope ["spots", "tread", "known", "one", "two", "length"] ["spots", "tread"] (defScope s_law_critical) := ⟨rfl, rfl, rfl, by decide +kernel, rfl, by decide +kernel, by decide +kernel⟩
set_option maxHeartbeats 4000000 in
theorem b_law_critical {d : Dc} (G : Facts d) (B : Bs) (spots_1 : (List Int)) (tread_1 : Int) : Sx (d.cc ["spots", "tread", "known", "one", "two", "length"] (defScope s_law_critical) 0) B [.sh (rL rI) spots_1, .sh rI tread_1, .no, .no, .no, .no] (defBody s_law_critical) (m_law_critical spots_1 tread_1) (pR (d.cc ["spots", "tread", "known", "one", "two", "length"] (defScope s_law_critical) 0) B (resF (oL rI))) := by
  unfold m_law_critical
  refine sx_bindF 2 (ex_dic0) (fun known_1 => ?_)
  refine sx_forM (mi := some spots_1) (s0 := known_1) (f := (m_law_critical_b3 spots_1 tread_1)) (fun s_1 => [.sh (rL rI) spots_1, .sh rI tread_1, .ow oK s_1, .no, .no, .no]) (ii_listS (ex_var (r := (rL rI)) (x := spots_1) 0)) (gt_name 3) (.s (.s (.s (.s (.s (.s (.n)))))) : Wk [.sh (rL rI) spots_1, .sh rI tread_1, .ow oK known_1, .no, .no, .no] [.sh (rL rI) spots_1, .sh rI tread_1, .ow oK known_1, .no, .no, .no]) ?_ (fun s_6 => ?_)
  · intro s_1 one_1
    unfold m_law_critical_b3
    refine sx_forM (mi := some spots_1) (s0 := s_1) (f := (m_law_critical_b2 tread_1 one_1)) (fun s_2 => [.sh (rL rI) spots_1, .sh rI tread_1, .ow oK s_2, .sh rI one_1, .no, .no]) (ii_listS (ex_var (r := (rL rI)) (x := spots_1) 0)) (gt_name 4) (.s (.s (.s (.s (.s (.s (.n)))))) : Wk [.sh (rL rI) spots_1, .sh rI tread_1, .ow oK s_1, .sh rI one_1, .no, .no] [.sh (rL rI) spots_1, .sh rI tread_1, .ow oK s_1, .sh rI one_1, .no, .no]) ?_ (fun s_5 => ?_)
    · intro s_2 two_1
      unfold m_law_critical_b2
      refine sx_forM (mi := b2 (b2 (some (two_1 - one_1)) (mulG (2 : Int) tread_1) (fun x y => some (x + y))) (b2 (b2 (some (two_1 - one_1)) (mulG (2 : Int) tread_1) (fun x y => some (x - y))) (some []) (fun x y => some (x :: y))) (fun x y => some (x :: y))) (s0 := s_2) (f := (m_law_critical_b1)) (fun s_3 => [.sh (rL rI) spots_1, .sh rI tread_1, .ow oK s_3, .sh rI one_1, .sh rI two_1, .no]) (ii_listS (ex_fs (ex_lst (el_cons (ex_bin o_add (ex_bin0 o_sub (ex_var (r := rI) (x := two_1) 4) (ex_var (r := rI) (x := one_1) 3)) (ex_bin0 o_mul (ex_int) (ex_var (r := rI) (x := tread_1) 1))) (el_cons (ex_bin o_sub (ex_bin0 o_sub (ex_var (r := rI) (x := two_1) 4) (ex_var (r := rI) (x := one_1) 3)) (ex_bin0 o_mul (ex_int) (ex_var (r := rI) (x := tread_1) 1))) (el_nil))) (ln_le (ln_cons (ln_cons ln_nil)) rfl)))) (gt_name 5) (.s (.s (.s (.s (.s (.s (.n)))))) : Wk [.sh (rL rI) spots_1, .sh rI tread_1, .ow oK s_2, .sh rI one_1, .sh rI two_1, .no] [.sh (rL rI) spots_1, .sh rI tread_1, .ow oK s_2, .sh rI one_1, .sh rI two_1, .no]) ?_ (fun s_4 => ?_)
      · intro s_3 length_1
        unfold m_law_critical_b1
        refine sx_ifE (tt_cmp0 o_gt (ex_var (r := rI) (x := length_1) 5) (ex_int)) ?_ ?_
        · refine sx_key (xs := s_3) 2 (ex_var (r := rI) (x := length_1) 5) (fun known_2 => ?_)
          exact sx_nil (.s (.s (.s (.s (.s (.d (.n)))))) : Wk [.sh (rL rI) spots_1, .sh rI tread_1, .ow oK known_2, .sh rI one_1, .sh rI two_1, .sh rI length_1] [.sh (rL rI) spots_1, .sh rI tread_1, .ow oK known_2, .sh rI one_1, .sh rI two_1, .no])
        · exact sx_nil (.s (.s (.s (.s (.s (.d (.n)))))) : Wk [.sh (rL rI) spots_1, .sh rI tread_1, .ow oK s_3, .sh rI one_1, .sh rI two_1, .sh rI length_1] [.sh (rL rI) spots_1, .sh rI tread_1, .ow oK s_3, .sh rI one_1, .sh rI two_1, .no])
      exact sx_nil (.s (.s (.s (.s (.d (.s (.n)))))) : Wk [.sh (rL rI) spots_1, .sh rI tread_1, .ow oK s_4, .sh rI one_1, .sh rI two_1, .no] [.sh (rL rI) spots_1, .sh rI tread_1, .ow oK s_4, .sh rI one_1, .no, .no])
    exact sx_nil (.s (.s (.s (.d (.s (.s (.n)))))) : Wk [.sh (rL rI) spots_1, .sh rI tread_1, .ow oK s_5, .sh rI one_1, .no, .no] [.sh (rL rI) spots_1, .sh rI tread_1, .ow oK s_5, .no, .no, .no])
  exact sx_retF (ex_callBF (m := some (s_6, ())) c_sorted G.f_sorted b_sorted (ea_cons0 (ex_fl (ex_keys (xs := s_6) 2 5 [("length", 5)] (by kernel_rfl))) (ea_nil)))
def K_law_critical (d : Dc) : Prop := ∀ (N : List Str) (sc : Scope) (K : Nat), 1 ≤ K → Fk (d.cc N sc K) "_law_critical" 2 (aC (vS (rL rI)) (aC (vS rI) aN)) (fun t => m_law_critical t.1 t.2.1) (resF (oL rI))
theorem o_law_critical {d : Dc} (G : Facts d) {fd : FuncData} {dvs : List V} (F : FunD d.K "_law_critical" "_law_critical" (defArgs s_law_critical) (defBody s_law_critical) (defScope s_law_critical) dvs [] (He.ga d.K "_law_critical") fd) : FnOk d.P d.w d.K d.mg d.base CX0 1 (He.ga d.K "_law_critical") fd ["spots", "tread"] (spT d.K (aC (vS (rL rI)) (aC (vS rI) aN)) (fun t => m_law_critical t.1 t.2.1) (resF (oL rI))) := by
  refine fn_ok (k := 0) F sc_law_critical (ars_cons (ars_cons ars_nil)) (fun _ => rfl) ?_
  rintro B ⟨spots_1, tread_1, ⟨⟩⟩
  exact b_law_critical G  B spots_1 tread_1
theorem k_law_critical {d : Dc} (G : Facts d) {fd : FuncData} (F : FunD d.K "_law_critical" "_law_critical" (defArgs s_law_critical) (defBody s_law_critical) (defScope s_law_critical) [] [] (He.ga d.K "_law_critical") fd) : K_law_critical d := fun N sc K h =>
  fk_of (o_law_critical G  F) G.g_law_critical F.kp (F.bindsN fun _ _ _ _ _ _ us hl => match us, hl with | [_, _], _ => rfl) h
end K44
set_option Elab.async false
set_option linter.all false
set_option maxRecDepth 100000
namespace K44
open PySem PySem.Spec PyProof.Rows L2 L2.T

def m_law_b1 (bottom_1 : Int) (tread_1 : Int) (scale_1 : Int) (fours_1 : (List Int)) (ends_1 : (List Int)) (s_1 : (List ((Int × Int) × (Option (Int × Int))))) (k_1 : Int) : Option (Out ((List ((Int × Int) × (Option (Int × Int))))) ((List ((Int × Int) × (Option (Int × Int))))) Bool) :=
  ((b2 (some fours_1) (b2 (mulG (4 : Int) tread_1) (b2 (b2 (atG ends_1 k_1) (some (2 : Int)) (fun x y => some (x + y))) (some ()) (fun x y => some (x, y))) (fun x y => some (x, y))) (fun x y => some (x, y))).bind (fun t => m_law_is_sure t.1 t.2.1 t.2.2.1)).bind (fun sure_1 => bIf (bAnd (some (decide (k_1 > (0 : Int)))) (b2 ((b2 (some fours_1) (b2 (mulG (4 : Int) tread_1) (b2 (atG ends_1 k_1) (some ()) (fun x y => some (x, y))) (fun x y => some (x, y))) (fun x y => some (x, y))).bind (fun t => m_law_is_sure t.1 t.2.1 t.2.2.1)) (some sure_1) (fun x y => some (!decide (x = y))))) (((some false).map Lv.rt).map Out.lv) (((b2 (b2 (atG ends_1 k_1) (some scale_1) mulG) (b2 (mulG (4 : Int) bottom_1) (some ()) (fun x y => some (x, y))) (fun x y => some (x, y))).bind (fun t => m_law_ratio t.1 t.2.1)).bind (fun begin_1 => (bIf (some (decide ((k_1 + (1 : Int)) < (ends_1.length : Int)))) (((b2 (b2 (atG ends_1 (k_1 + (1 : Int))) (some scale_1) mulG) (b2 (mulG (4 : Int) bottom_1) (some ()) (fun x y => some (x, y))) (fun x y => some (x, y))).bind (fun t => m_law_ratio t.1 t.2.1)).map some) (some none)).bind (fun end_1 => bIf (bAnd (some sure_1) (bAnd (some (!decide (s_1 = []))) (b2 ((atG s_1 (-(1 : Int))).map (fun x => x.2)) (some (some begin_1)) (fun x y => some (decide (x = y)))))) ((b2 ((b2 ((atG s_1 (-(1 : Int))).map (fun x => x.1)) (b2 (some end_1) (some ()) (fun x y => some (x, y))) (fun x y => some (x, y))).map (fun t => (t.1, t.2.1))) (some (-(1 : Int))) (fun y j => setG s_1 j y)).bind (fun due_2 => some (Out.nx due_2))) (bIf (some sure_1) (((some (begin_1, end_1)).bind (fun y => appG s_1 y)).bind (fun due_3 => some (Out.nx due_3))) (some (Out.nx s_1)))))))
def m_law (script_1 : List Int) : Option Bool :=
  ((b2 (m_law_cell script_1 (0 : Int)) (b2 (some (13 : Int)) (some ()) (fun x y => some (x, y))) (fun x y => some (x, y))).bind (fun t => m_law_digits t.1 t.2.1)).bind (fun ds_1 => (b2 (some (1 : Int)) (b2 ((b2 (atG ds_1 (0 : Int)) (some ()) (fun x y => some (x, y))).bind (fun t => some (t.1))) (some (6 : Int)) modG) (fun x y => some (x + y))).bind (fun many_1 => (bIf (b2 (b2 (b2 ((b2 (atG ds_1 (0 : Int)) (some ()) (fun x y => some (x, y))).bind (fun t => some (t.1))) (some (6 : Int)) divG) (some (8 : Int)) modG) (some (0 : Int)) (fun x y => some (decide (x = y)))) ((b2 (some (7 : Int)) (b2 (b2 ((b2 (atG ds_1 (1 : Int)) (some ()) (fun x y => some (x, y))).bind (fun t => some (t.1))) (some (3 : Int)) divG) (some (2 : Int)) modG) (fun x y => some (x + y))).bind (fun many_2 => some many_2)) (some many_1)).bind (fun j_1 => (b2 (some (1 : Int)) (b2 ((b2 (atG ds_1 (1 : Int)) (some ()) (fun x y => some (x, y))).bind (fun t => some (t.1))) (some (3 : Int)) modG) (fun x y => some (x + y))).bind (fun bottom_1 => (b2 ((b2 (atG ds_1 (2 : Int)) (some ()) (fun x y => some (x, y))).bind (fun t => some (t.1))) (some (4 : Int)) modG).bind (fun tread_1 => ((b2 (some ds_1) (b2 (some (3 : Int)) (b2 (some j_1) (b2 (b2 (mulG (2 : Int) tread_1) (some (1 : Int)) (fun x y => some (x + y))) (b2 (b2 (mulG (2 : Int) tread_1) (some (2 : Int)) (fun x y => some (x + y))) (some ()) (fun x y => some (x, y))) (fun x y => some (x, y))) (fun x y => some (x, y))) (fun x y => some (x, y))) (fun x y => some (x, y))).bind (fun t => m_law_axles t.1 t.2.1 t.2.2.1 t.2.2.2.1 t.2.2.2.2.1)).bind (fun spots_1 => (bIf (bAnd (some (decide (j_1 > (1 : Int)))) (bAnd (some (decide (tread_1 > (0 : Int)))) (b2 (b2 (b2 ((b2 (atG ds_1 (2 : Int)) (some ()) (fun x y => some (x, y))).bind (fun t => some (t.1))) (some (4 : Int)) divG) (some (8 : Int)) modG) (some (0 : Int)) (fun x y => some (decide (x = y)))))) ((b2 (some (1 : Int)) (b2 ((b2 (atG ds_1 (12 : Int)) (some ()) (fun x y => some (x, y))).bind (fun t => some (t.1))) (some (j_1 - (1 : Int))) modG) (fun x y => some (x + y))).bind (fun at_1 => (b2 (b2 (b2 (atG spots_1 at_1) (atG spots_1 (at_1 - (1 : Int))) (fun x y => some (x - y))) (some (1 : Int)) (fun x y => some (x - y))) (b2 (b2 ((b2 (atG ds_1 (12 : Int)) (some ()) (fun x y => some (x, y))).bind (fun t => some (t.1))) (some (7 : Int)) divG) (mulG (2 : Int) tread_1) modG) (fun x y => some (x - y))).bind (fun near_1 => (lcM (fun _ => some true) (fun one_1 => bIf (b2 (some one_1) (atG spots_1 at_1) (fun x y => some (decide (x ≥ y)))) (some (one_1 - near_1)) (some one_1)) spots_1).bind (fun spots_2 => some spots_2)))) (some spots_1)).bind (fun j_2 => (b2 (some ([(1 : Int), (1000 : Int)])) (b2 (b2 ((b2 (atG ds_1 (2 : Int)) (some ()) (fun x y => some (x, y))).bind (fun t => some (t.1))) (some (32 : Int)) divG) (some (2 : Int)) modG) atG).bind (fun scale_1 => ((b2 ((b2 (lcM (fun _ => some true) (fun one_2 => mulG one_2 scale_1) j_2) (b2 (some bottom_1) (some ()) (fun x y => some (x, y))) (fun x y => some (x, y))).bind (fun t => m_law_over_bottom t.1 t.2.1)) (b2 ((b2 (mulG tread_1 scale_1) (b2 (some bottom_1) (some ()) (fun x y => some (x, y))) (fun x y => some (x, y))).bind (fun t => m_law_ratio t.1 t.2.1)) (some ()) (fun x y => some (x, y))) (fun x y => some (x, y))).bind (fun t => m_Cart___init__ t.1 t.2.1)).bind (fun cart_1 => ((some j_2).bind (fun xs => lcM (fun _ => some true) (fun one_3 => mulG (4 : Int) one_3) xs)).bind (fun fours_1 => (b2 (some ([(0 : Int)])) ((b2 (some fours_1) (b2 (mulG (4 : Int) tread_1) (some ()) (fun x y => some (x, y))) (fun x y => some (x, y))).bind (fun t => m_law_critical t.1 t.2.1)) catG).bind (fun ends_1 => (some ([])).bind (fun due_1 => loR ((rgG 0 (ends_1.length : Int)).bind (fun xs => forL (m_law_b1 bottom_1 tread_1 scale_1 fours_1 ends_1) xs due_1)) (fun s_2 => (m_sure_lengths cart_1).bind (fun told_1 => bAnd (some true) (bAnd (some (decide (told_1 = s_2))) (b2 (m_sure_lengths cart_1) (some told_1) (fun x y => some (decide (x = y)))))))))))))))))))
abbrev s_law : Stmt := top 39
theorem sc_law : FnScope ["script", "ds", "many", "bottom", "tread", "spots", "scale", "cart", "fours", "ends", "due", "k", "told", "at", "near", "sure", "begin", "end", "one"] ["script"] (defScope s_law) := ⟨rfl, rfl, rfl, by decide +kernel, rfl, by decide +kernel, by decide +kernel⟩
set_option maxHeartbeats 4000000 in
theorem b_law {d : Dc} (G : Facts d) (K_law_cell : K_law_cell d) (K_law_digits : K_law_digits d) (K_law_axles : K_law_axles d) (K_law_over_bottom : K_law_over_bottom d) (K_law_ratio : K_law_ratio d) (K_law_critical : K_law_critical d) (K_law_is_sure : K_law_is_sure d) (K_sure_lengths : K_sure_lengths d) (K_Cart : K_Cart d) (B : Bs) (script_1 : List Int) : Sx (d.cc ["script", "ds", "many", "bottom", "tread", "spots", "scale", "cart", "fours", "ends", "due", "k", "told", "at", "near", "sure", "begin", "end", "one"] (defScope s_law) 6) B [.sh rZ script_1, .no, .no, .no, .no, .no, .no, .no, .no, .no, .no, .no, .no, .no, .no, .no, .no, .no, .no] (defBody s_law) (m_law script_1) (pR (d.cc ["script", "ds", "many", "bottom", "tread", "spots", "scale", "cart", "fours", "ends", "due", "k", "told", "at", "near", "sure", "begin", "end", "one"] (defScope s_law) 6) B (resS rB)) := by
  replace K_law_cell := K_law_cell ["script", "ds", "many", "bottom", "tread", "spots", "scale", "cart", "fours", "ends", "due", "k", "told", "at", "near", "sure", "begin", "end", "one"] (defScope s_law) 6 (by decide)
  replace K_law_digits := K_law_digits ["script", "ds", "many", "bottom", "tread", "spots", "scale", "cart", "fours", "ends", "due", "k", "told", "at", "near", "sure", "begin", "end", "one"] (defScope s_law) 6 (by decide)
  replace K_law_axles := K_law_axles ["script", "ds", "many", "bottom", "tread", "spots", "scale", "cart", "fours", "ends", "due", "k", "told", "at", "near", "sure", "begin", "end", "one"] (defScope s_law) 6 (by decide)
  replace K_law_over_bottom := K_law_over_bottom ["script", "ds", "many", "bottom", "tread", "spots", "scale", "cart", "fours", "ends", "due", "k", "told", "at", "near", "sure", "begin", "end", "one"] (defScope s_law) 6 (by decide)
  replace K_law_ratio := K_law_ratio ["script", "ds", "many", "bottom", "tread", "spots", "scale", "cart", "fours", "ends", "due", "k", "told", "at", "near", "sure", "begin", "end", "one"] (defScope s_law) 6 (by decide)
  replace K_law_critical := K_law_critical ["script", "ds", "many", "bottom", "tread", "spots", "scale", "cart", "fours", "ends", "due", "k", "told", "at", "near", "sure", "begin", "end", "one"] (defScope s_law) 6 (by decide)
  replace K_law_is_sure := K_law_is_sure ["script", "ds", "many", "bottom", "tread", "spots", "scale", "cart", "fours", "ends", "due", "k", "told", "at", "near", "sure", "begin", "end", "one"] (defScope s_law) 6 (by decide)
  replace K_sure_lengths := K_sure_lengths ["script", "ds", "many", "bottom", "tread", "spots", "scale", "cart", "fours", "ends", "due", "k", "told", "at", "near", "sure", "begin", "end", "one"] (defScope s_law) 6 (by decide)
  replace K_Cart := K_Cart ["script", "ds", "many", "bottom", "tread", "spots", "scale", "cart", "fours", "ends", "due", "k", "told", "at", "near", "sure", "begin", "end", "one"] (defScope s_law) 6 (by decide)
  unfold m_law
  refine sx_bind 1 (ex_fs (ex_callF K_law_digits (ea_cons (ex_call0 K_law_cell (ea_cons0 (ex_var (r := rZ) (x := script_1) 0) (ea_cons0 (ex_int) (ea_nil))) (alS (alS (fun _ _ _ _ _ => al0)))) (ea_cons (ex_int) (ea_nil))) (alS (alS (fun _ _ _ _ _ => al0))))) (fun ds_1 => ?_)
  refine sx_bind 2 (ex_bin o_add (ex_int) (ex_bin o_mod (ex_callT c_int G.f_int b_int (ea_cons (ex_ix0 (ex_q (ex_var (r := (rL rI)) (x := ds_1) 1)) (ex_int)) (ea_nil))) (ex_int))) (fun many_1 => ?_)
  refine sx_ifJ (fun j_1 => [.sh rZ script_1, .sh (rL rI) ds_1, .sh rI j_1, .no, .no, .no, .no, .no, .no, .no, .no, .no, .no, .no, .no, .no, .no, .no, .no]) (tt_cmp (o_eq dI) (ex_bin o_mod (ex_bin o_div (ex_callT c_int G.f_int b_int (ea_cons (ex_ix0 (ex_q (ex_var (r := (rL rI)) (x := ds_1) 1)) (ex_int)) (ea_nil))) (ex_int)) (ex_int)) (ex_int)) ?_ ?_ (fun j_1 => ?_)
  · refine sx_bind 2 (ex_bin o_add (ex_int) (ex_bin o_mod (ex_bin o_div (ex_callT c_int G.f_int b_int (ea_cons (ex_ix0 (ex_q (ex_var (r := (rL rI)) (x := ds_1) 1)) (ex_int)) (ea_nil))) (ex_int)) (ex_int))) (fun many_2 => ?_)
    exact sx_nil (.s (.s (.s (.s (.s (.s (.s (.s (.s (.s (.s (.s (.s (.s (.s (.s (.s (.s (.s (.n))))))))))))))))))) : Wk [.sh rZ script_1, .sh (rL rI) ds_1, .sh rI many_2, .no, .no, .no, .no, .no, .no, .no, .no, .no, .no, .no, .no, .no, .no, .no, .no] [.sh rZ script_1, .sh (rL rI) ds_1, .sh rI many_2, .no, .no, .no, .no, .no, .no, .no, .no, .no, .no, .no, .no, .no, .no, .no, .no])
  · exact sx_nil (.s (.s (.s (.s (.s (.s (.s (.s (.s (.s (.s (.s (.s (.s (.s (.s (.s (.s (.s (.n))))))))))))))))))) : Wk [.sh rZ script_1, .sh (rL rI) ds_1, .sh rI many_1, .no, .no, .no, .no, .no, .no, .no, .no, .no, .no, .no, .no, .no, .no, .no, .no] [.sh rZ script_1, .sh (rL rI) ds_1, .sh rI many_1, .no, .no, .no, .no, .no, .no, .no, .no, .no, .no, .no, .no, .no, .no, .no, .no])
  refine sx_bind 3 (ex_bin o_add (ex_int) (ex_bin o_mod (ex_callT c_int G.f_int b_int (ea_cons (ex_ix0 (ex_q (ex_var (r := (rL rI)) (x := ds_1) 1)) (ex_int)) (ea_nil))) (ex_int))) (fun bottom_1 => ?_)
  refine sx_bind 4 (ex_bin o_mod (ex_callT c_int G.f_int b_int (ea_cons (ex_ix0 (ex_q (ex_var (r := (rL rI)) (x := ds_1) 1)) (ex_int)) (ea_nil))) (ex_int)) (fun tread_1 => ?_)
  refine sx_bind 5 (ex_fs (ex_callF K_law_axles (ea_cons (ex_var (r := (rL rI)) (x := ds_1) 1) (ea_cons (ex_int) (ea_cons (ex_var (r := rI) (x := j_1) 2) (ea_cons (ex_bin o_add (ex_bin0 o_mul (ex_int) (ex_var (r := rI) (x := tread_1) 4)) (ex_int)) (ea_cons (ex_bin o_add (ex_bin0 o_mul (ex_int) (ex_var (r := rI) (x := tread_1) 4)) (ex_int)) (ea_nil)))))) (alS (alS (alS (alS (alS (fun _ _ _ _ _ => al0)))))))) (fun spots_1 => ?_)
  refine sx_ifJ (fun j_2 => [.sh rZ script_1, .sh (rL rI) ds_1, .sh rI j_1, .sh rI bottom_1, .sh rI tread_1, .sh (rL rI) j_2, .no, .no, .no, .no, .no, .no, .no, .no, .no, .no, .no, .no, .no]) (tt_w (tw_and (tt_cmp0 o_gt (ex_var (r := rI) (x := j_1) 2) (ex_int)) (tw_and (tt_cmp0 o_gt (ex_var (r := rI) (x := tread_1) 4) (ex_int)) (tw_and1 (tt_cmp (o_eq dI) (ex_bin o_mod (ex_bin o_div (ex_callT c_int G.f_int b_int (ea_cons (ex_ix0 (ex_q (ex_var (r := (rL rI)) (x := ds_1) 1)) (ex_int)) (ea_nil))) (ex_int)) (ex_int)) (ex_int)))))) ?_ ?_ (fun j_2 => ?_)
  · refine sx_bind 13 (ex_bin o_add (ex_int) (ex_bin o_mod (ex_callT c_int G.f_int b_int (ea_cons (ex_ix0 (ex_q (ex_var (r := (rL rI)) (x := ds_1) 1)) (ex_int)) (ea_nil))) (ex_bin0 o_sub (ex_var (r := rI) (x := j_1) 2) (ex_int)))) (fun at_1 => ?_)
    refine sx_bind 14 (ex_bin o_sub (ex_bin o_sub (ex_bin o_sub (ex_ix0 (ex_q (ex_var (r := (rL rI)) (x := spots_1) 5)) (ex_var (r := rI) (x := at_1) 13)) (ex_ix0 (ex_q (ex_var (r := (rL rI)) (x := spots_1) 5)) (ex_bin0 o_sub (ex_var (r := rI) (x := at_1) 13) (ex_int)))) (ex_int)) (ex_bin o_mod (ex_bin o_div (ex_callT c_int G.f_int b_int (ea_cons (ex_ix0 (ex_q (ex_var (r := (rL rI)) (x := ds_1) 1)) (ex_int)) (ea_nil))) (ex_int)) (ex_bin0 o_mul (ex_int) (ex_var (r := rI) (x := tread_1) 4)))) (fun near_1 => ?_)
    refine sx_bindC 5 (ex_fs (ex_lc (m := some spots_1) (r := rI) (q := rI) (c := fun _ => some true) (f := fun one_1 => bIf (b2 (some one_1) (atG spots_1 at_1) (fun x y => some (decide (x ≥ y)))) (some (one_1 - near_1)) (some one_1)) [("one", 18)] (by kernel_rfl) (ii_listS (ex_var (r := (rL rI)) (x := spots_1) 5)) (gt_name 18) (fun _ => ts_nil) (fun one_1 => ex_if (tt_cmp o_ge (ex_var (r := rI) (x := one_1) 18) (ex_ix0 (ex_q (ex_var (r := (rL rI)) (x := spots_1) 5)) (ex_var (r := rI) (x := at_1) 13))) (ex_bin0 o_sub (ex_var (r := rI) (x := one_1) 18) (ex_var (r := rI) (x := near_1) 14)) (ex_var (r := rI) (x := one_1) 18)))) (fun spots_2 => ?_)
    exact sx_nil (.s (.s (.s (.s (.s (.s (.s (.s (.s (.s (.s (.s (.s (.d (.d (.s (.s (.s (.s (.n))))))))))))))))))) : Wk [.sh rZ script_1, .sh (rL rI) ds_1, .sh rI j_1, .sh rI bottom_1, .sh rI tread_1, .sh (rL rI) spots_2, .no, .no, .no, .no, .no, .no, .no, .sh rI at_1, .sh rI near_1, .no, .no, .no, .no] [.sh rZ script_1, .sh (rL rI) ds_1, .sh rI j_1, .sh rI bottom_1, .sh rI tread_1, .sh (rL rI) spots_2, .no, .no, .no, .no, .no, .no, .no, .no, .no, .no, .no, .no, .no])
  · exact sx_nil (.s (.s (.s (.s (.s (.s (.s (.s (.s (.s (.s (.s (.s (.s (.s (.s (.s (.s (.s (.n))))))))))))))))))) : Wk [.sh rZ script_1, .sh (rL rI) ds_1, .sh rI j_1, .sh rI bottom_1, .sh rI tread_1, .sh (rL rI) spots_1, .no, .no, .no, .no, .no, .no, .no, .no, .no, .no, .no, .no, .no] [.sh rZ script_1, .sh (rL rI) ds_1, .sh rI j_1, .sh rI bottom_1, .sh rI tread_1, .sh (rL rI) spots_1, .no, .no, .no, .no, .no, .no, .no, .no, .no, .no, .no, .no, .no])
  refine sx_bind 6 (ex_ix (ex_fq (ex_lst0 (el_cons0 (ex_int) (el_cons0 (ex_int) (el_nil))))) (ex_bin o_mod (ex_bin o_div (ex_callT c_int G.f_int b_int (ea_cons (ex_ix0 (ex_q (ex_var (r := (rL rI)) (x := ds_1) 1)) (ex_int)) (ea_nil))) (ex_int)) (ex_int))) (fun scale_1 => ?_)
  refine sx_bind 7 (ex_make K_Cart (ea_cons (ex_fs (ex_callF K_law_over_bottom (ea_cons (ex_fs (ex_lc (m := some j_2) (r := rI) (q := rI) (c := fun _ => some true) (f := fun one_2 => mulG one_2 scale_1) [("one", 18)] (by kernel_rfl) (ii_listS (ex_var (r := (rL rI)) (x := j_2) 5)) (gt_name 18) (fun _ => ts_nil) (fun one_2 => ex_bin0 o_mul (ex_var (r := rI) (x := one_2) 18) (ex_var (r := rI) (x := scale_1) 6)))) (ea_cons (ex_var (r := rI) (x := bottom_1) 3) (ea_nil))) (alS (alS (fun _ _ _ _ _ => al0))))) (ea_cons (ex_call K_law_ratio (ea_cons (ex_bin0 o_mul (ex_var (r := rI) (x := tread_1) 4) (ex_var (r := rI) (x := scale_1) 6)) (ea_cons (ex_var (r := rI) (x := bottom_1) 3) (ea_nil))) (alS (alS (fun _ _ _ _ _ => al0)))) (ea_nil))) (alS (alS (fun _ _ _ _ _ => al0)))) (fun cart_1 => ?_)
  refine sx_lc 8 (mx := (some j_2)) (r := rI) (q := rI) (c := fun _ => some true) (f := fun one_3 => mulG (4 : Int) one_3) [("one", 18)] (by kernel_rfl) (ii_listS (ex_var (r := (rL rI)) (x := j_2) 5)) (gt_name 18) (fun _ => ts_nil) (fun one_3 => ex_bin0 o_mul (ex_int) (ex_var (r := rI) (x := one_3) 18)) (fun fours_1 => ?_)
  refine sx_bind 9 (ex_fs (ex_binF o_cat (ex_fl (ex_lst0 (el_cons0 (ex_int) (el_nil)))) (ex_fl (ex_callF K_law_critical (ea_cons (ex_var (r := (rL rI)) (x := fours_1) 8) (ea_cons (ex_bin0 o_mul (ex_int) (ex_var (r := rI) (x := tread_1) 4)) (ea_nil))) (alS (alS (fun _ _ _ _ _ => al0))))))) (fun ends_1 => ?_)
  refine sx_bindF 10 (ex_lst0 (r := (rP (rP rI rI) (rO (rP rI rI)))) el_nil) (fun due_1 => ?_)
  refine sx_for (mi := rgG 0 (ends_1.length : Int)) (s0 := due_1) (f := (m_law_b1 bottom_1 tread_1 scale_1 fours_1 ends_1)) (fun s_1 => [.sh rZ script_1, .sh (rL rI) ds_1, .sh rI j_1, .sh rI bottom_1, .sh rI tread_1, .sh (rL rI) j_2, .sh rI scale_1, .sh rCart cart_1, .sh (rL rI) fours_1, .sh (rL rI) ends_1, .ow (oL (rP (rP rI rI) (rO (rP rI rI)))) s_1, .no, .no, .no, .no, .no, .no, .no, .no]) (ii_rng1 (m := (some (ends_1.length : Int))) G.f_range (ex_callB0 c_len G.f_len b_len (ea_cons0 (ex_q (ex_var (r := (rL rI)) (x := ends_1) 9)) (ea_nil)))) (gt_name 11) (.s (.s (.s (.s (.s (.s (.s (.s (.s (.s (.s (.s (.s (.s (.s (.s (.s (.s (.s (.n))))))))))))))))))) : Wk [.sh rZ script_1, .sh (rL rI) ds_1, .sh rI j_1, .sh rI bottom_1, .sh rI tread_1, .sh (rL rI) j_2, .sh rI scale_1, .sh rCart cart_1, .sh (rL rI) fours_1, .sh (rL rI) ends_1, .ow (oL (rP (rP rI rI) (rO (rP rI rI)))) due_1, .no, .no, .no, .no, .no, .no, .no, .no] [.sh rZ script_1, .sh (rL rI) ds_1, .sh rI j_1, .sh rI bottom_1, .sh rI tread_1, .sh (rL rI) j_2, .sh rI scale_1, .sh rCart cart_1, .sh (rL rI) fours_1, .sh (rL rI) ends_1, .ow (oL (rP (rP rI rI) (rO (rP rI rI)))) due_1, .no, .no, .no, .no, .no, .no, .no, .no]) ?_ (fun s_2 => ?_)
  · intro s_1 k_1
    unfold m_law_b1
    refine sx_bind 15 (ex_call K_law_is_sure (ea_cons (ex_var (r := (rL rI)) (x := fours_1) 8) (ea_cons (ex_bin0 o_mul (ex_int) (ex_var (r := rI) (x := tread_1) 4)) (ea_cons (ex_bin o_add (ex_ix0 (ex_q (ex_var (r := (rL rI)) (x := ends_1) 9)) (ex_var (r := rI) (x := k_1) 11)) (ex_int)) (ea_nil)))) (alS (alS (alS (fun _ _ _ _ _ => al0))))) (fun sure_1 => ?_)
    refine sx_ifO (tt_w (tw_and (tt_cmp0 o_gt (ex_var (r := rI) (x := k_1) 11) (ex_int)) (tw_and1 (tt_cmp (o_ne dB) (ex_call K_law_is_sure (ea_cons (ex_var (r := (rL rI)) (x := fours_1) 8) (ea_cons (ex_bin0 o_mul (ex_int) (ex_var (r := rI) (x := tread_1) 4)) (ea_cons (ex_ix0 (ex_q (ex_var (r := (rL rI)) (x := ends_1) 9)) (ex_var (r := rI) (x := k_1) 11)) (ea_nil)))) (alS (alS (alS (fun _ _ _ _ _ => al0))))) (ex_var (r := rB) (x := sure_1) 15))))) ?_ ?_
    · refine sx_rt ?_
      exact sx_ret (ex_bl)
    · refine sx_bind 16 (ex_call K_law_ratio (ea_cons (ex_bin o_mul (ex_ix0 (ex_q (ex_var (r := (rL rI)) (x := ends_1) 9)) (ex_var (r := rI) (x := k_1) 11)) (ex_var (r := rI) (x := scale_1) 6)) (ea_cons (ex_bin0 o_mul (ex_int) (ex_var (r := rI) (x := bottom_1) 3)) (ea_nil))) (alS (alS (fun _ _ _ _ _ => al0)))) (fun begin_1 => ?_)
      refine sx_bind 17 (ex_if (tt_cmp0 o_lt (ex_bin0 o_add (ex_var (r := rI) (x := k_1) 11) (ex_int)) (ex_callB0 c_len G.f_len b_len (ea_cons0 (ex_q (ex_var (r := (rL rI)) (x := ends_1) 9)) (ea_nil)))) (ex_somep nnP (ex_call K_law_ratio (ea_cons (ex_bin o_mul (ex_ix0 (ex_q (ex_var (r := (rL rI)) (x := ends_1) 9)) (ex_bin0 o_add (ex_var (r := rI) (x := k_1) 11) (ex_int))) (ex_var (r := rI) (x := scale_1) 6)) (ea_cons (ex_bin0 o_mul (ex_int) (ex_var (r := rI) (x := bottom_1) 3)) (ea_nil))) (alS (alS (fun _ _ _ _ _ => al0))))) (ex_non (r := (rP rI rI)))) (fun end_1 => ?_)
      refine sx_ifE (tt_w (tw_and (tt_val (ex_var (r := rB) (x := sure_1) 15)) (tw_and (tt_cmp0 (o_neL (dP (dP dI dI) (dO (dP dI dI) neP))) (ex_varO (x := s_1) 10) (ex_fl (ex_lst0 (r := (rP (rP rI rI) (rO (rP rI rI)))) el_nil))) (tw_and1 (tt_cmp (o_eq (dO (dP dI dI) neP)) (ex_at1 (ex_ix0 (ex_qO (ex_varO (x := s_1) 10)) (ex_neg0 (ex_int)))) (ex_some nnP (ex_var (r := (rP rI rI)) (x := begin_1) 16))))))) ?_ ?_
      · refine sx_setI (xs := s_1) 10 (ex_tup2 (ea_cons (ex_at0 (ex_ix0 (ex_qO (ex_varO (x := s_1) 10)) (ex_neg0 (ex_int)))) (ea_cons (ex_var (r := (rO (rP rI rI))) (x := end_1) 17) (ea_nil)))) (ex_neg0 (ex_int)) (fun due_2 => ?_)
        exact sx_nilO (.s (.s (.s (.s (.s (.s (.s (.s (.s (.s (.s (.d (.s (.s (.s (.d (.d (.d (.s (.n))))))))))))))))))) : Wk [.sh rZ script_1, .sh (rL rI) ds_1, .sh rI j_1, .sh rI bottom_1, .sh rI tread_1, .sh (rL rI) j_2, .sh rI scale_1, .sh rCart cart_1, .sh (rL rI) fours_1, .sh (rL rI) ends_1, .ow (oL (rP (rP rI rI) (rO (rP rI rI)))) due_2, .sh rI k_1, .no, .no, .no, .sh rB sure_1, .sh (rP rI rI) begin_1, .sh (rO (rP rI rI)) end_1, .no] [.sh rZ script_1, .sh (rL rI) ds_1, .sh rI j_1, .sh rI bottom_1, .sh rI tread_1, .sh (rL rI) j_2, .sh rI scale_1, .sh rCart cart_1, .sh (rL rI) fours_1, .sh (rL rI) ends_1, .ow (oL (rP (rP rI rI) (rO (rP rI rI)))) due_2, .no, .no, .no, .no, .no, .no, .no, .no])
      · refine sx_ifE (tt_val (ex_var (r := rB) (x := sure_1) 15)) ?_ ?_
        · refine sx_app (xs := s_1) 10 (ex_tup20 (ea_cons0 (ex_var (r := (rP rI rI)) (x := begin_1) 16) (ea_cons0 (ex_var (r := (rO (rP rI rI))) (x := end_1) 17) (ea_nil)))) (fun due_3 => ?_)
          exact sx_nilO (.s (.s (.s (.s (.s (.s (.s (.s (.s (.s (.s (.d (.s (.s (.s (.d (.d (.d (.s (.n))))))))))))))))))) : Wk [.sh rZ script_1, .sh (rL rI) ds_1, .sh rI j_1, .sh rI bottom_1, .sh rI tread_1, .sh (rL rI) j_2, .sh rI scale_1, .sh rCart cart_1, .sh (rL rI) fours_1, .sh (rL rI) ends_1, .ow (oL (rP (rP rI rI) (rO (rP rI rI)))) due_3, .sh rI k_1, .no, .no, .no, .sh rB sure_1, .sh (rP rI rI) begin_1, .sh (rO (rP rI rI)) end_1, .no] [.sh rZ script_1, .sh (rL rI) ds_1, .sh rI j_1, .sh rI bottom_1, .sh rI tread_1, .sh (rL rI) j_2, .sh rI scale_1, .sh rCart cart_1, .sh (rL rI) fours_1, .sh (rL rI) ends_1, .ow (oL (rP (rP rI rI) (rO (rP rI rI)))) due_3, .no, .no, .no, .no, .no, .no, .no, .no])
        · exact sx_nilO (.s (.s (.s (.s (.s (.s (.s (.s (.s (.s (.s (.d (.s (.s (.s (.d (.d (.d (.s (.n))))))))))))))))))) : Wk [.sh rZ script_1, .sh (rL rI) ds_1, .sh rI j_1, .sh rI bottom_1, .sh rI tread_1, .sh (rL rI) j_2, .sh rI scale_1, .sh rCart cart_1, .sh (rL rI) fours_1, .sh (rL rI) ends_1, .ow (oL (rP (rP rI rI) (rO (rP rI rI)))) s_1, .sh rI k_1, .no, .no, .no, .sh rB sure_1, .sh (rP rI rI) begin_1, .sh (rO (rP rI rI)) end_1, .no] [.sh rZ script_1, .sh (rL rI) ds_1, .sh rI j_1, .sh rI bottom_1, .sh rI tread_1, .sh (rL rI) j_2, .sh rI scale_1, .sh rCart cart_1, .sh (rL rI) fours_1, .sh (rL rI) ends_1, .ow (oL (rP (rP rI rI) (rO (rP rI rI)))) s_1, .no, .no, .no, .no, .no, .no, .no, .no])
  refine sx_bind 12 (ex_call0 K_sure_lengths (ea_cons0 (ex_var (r := rCart) (x := cart_1) 7) (ea_nil)) (alS (fun _ _ _ _ _ => al0))) (fun told_1 => ?_)
  exact sx_ret (ex_and (ex_isi (g := fun _ => true) (ex_var (r := (rT (rP (rP rI rI) (rO (rP rI rI))))) (x := told_1) 12) (cv_ty G.f_tuple b_tuple) tyT (fun _ => kit_ty (by decide +kernel)) G.f_isinstance) (ex_and (ex_cmp0 (o_eq (dT (dP (dP dI dI) (dO (dP dI dI) neP)))) (ex_var (r := (rT (rP (rP rI rI) (rO (rP rI rI))))) (x := told_1) 12) (ex_callT0 c_tuple G.f_tuple b_tuple (ea_cons0 (ex_qO (ex_varO (x := s_2) 10)) (ea_nil)))) (ex_one (ex_cmp (o_eq (dT (dP (dP dI dI) (dO (dP dI dI) neP)))) (ex_call0 K_sure_lengths (ea_cons0 (ex_var (r := rCart) (x := cart_1) 7) (ea_nil)) (alS (fun _ _ _ _ _ => al0))) (ex_var (r := (rT (rP (rP rI rI) (rO (rP rI rI))))) (x := told_1) 12)))))
def K_law (d : Dc) : Prop := ∀ (N : List Str) (sc : Scope) (K : Nat), 7 ≤ K → Fk (d.cc N sc K) "law" 1 (aC (vS rZ) aN) (fun t => m_law t.1) (resS rB)
theorem o_law {d : Dc} (G : Facts d) (K_law_cell : K_law_cell d) (K_law_digits : K_law_digits d) (K_law_axles : K_law_axles d) (K_law_over_bottom : K_law_over_bottom d) (K_law_ratio : K_law_ratio d) (K_law_critical : K_law_critical d) (K_law_is_sure : K_law_is_sure d) (K_sure_lengths : K_sure_lengths d) (K_Cart : K_Cart d) {fd : FuncData} {dvs : List V} (F : FunD d.K "law" "law" (defArgs s_law) (defBody s_law) (defScope s_law) dvs [] (He.ga d.K "law") fd) : FnOk d.P d.w d.K d.mg d.base CX0 7 (He.ga d.K "law") fd ["script"] (spT d.K (aC (vS rZ) aN) (fun t => m_law t.1) (resS rB)) := by
  refine fn_ok (k := 6) F sc_law (ars_cons ars_nil) (fun _ => rfl) ?_
  rintro B ⟨script_1, ⟨⟩⟩
  exact b_law G K_law_cell K_law_digits K_law_axles K_law_over_bottom K_law_ratio K_law_critical K_law_is_sure K_sure_lengths K_Cart B script_1
theorem k_law {d : Dc} (G : Facts d) (K_law_cell : K_law_cell d) (K_law_digits : K_law_digits d) (K_law_axles : K_law_axles d) (K_law_over_bottom : K_law_over_bottom d) (K_law_ratio : K_law_ratio d) (K_law_critical : K_law_critical d) (K_law_is_sure : K_law_is_sure d) (K_sure_lengths : K_sure_lengths d) (K_Cart : K_Cart d) {fd : FuncData} (F : FunD d.K "law" "law" (defArgs s_law) (defBody s_law) (defScope s_law) [] [] (He.ga d.K "law") fd) : K_law d := fun N sc K h =>
  fk_of (o_law G K_law_cell K_law_digits K_law_axles K_law_over_bottom K_law_ratio K_law_critical K_law_is_sure K_sure_lengths K_Cart F) G.g_law F.kp (F.bindsN fun _ _ _ _ _ _ us hl => match us, hl with | [_], _ => rfl) h
end K44
set_option Elab.async false
set_option linter.all false
set_option maxRecDepth 100000
/-! Plain mathematics of the guards, loops and ratios: no program in sight. -/
namespace L2.M
open L2.T

/-! ### guards -/
theorem bIf_s {α : Type} (c : Bool) (m n : Option α) : bIf (some c) m n = if c = true then m else n := rfl
theorem bAnd_s (c : Bool) (n : Option Bool) : bAnd (some c) n = if c = true then n else some false := rfl
theorem bOr_s (c : Bool) (n : Option Bool) : bOr (some c) n = if c = true then some true else n := rfl
theorem b2_s {α β γ : Type} (x : α) (y : β) (g : α → β → Option γ) : b2 (some x) (some y) g = g x y := rfl
theorem bd_s {α β : Type} (x : α) (f : α → Option β) : (some x).bind f = f x := rfl
theorem sm_of {x : Int} (h : x.natAbs ≤ 10 ^ 60) : sm x = true := decide_eq_true (Nat.lt_of_le_of_lt h (by decide +kernel))
theorem mulG_eq {x y : Int} (hx : x.natAbs ≤ 10 ^ 60) (hy : y.natAbs ≤ 10 ^ 60) : mulG x y = some (x * y) := if_pos ⟨sm_of hx, sm_of hy⟩
theorem divG_eq {x y : Int} (h : 0 < y) (hy : y.natAbs ≤ 10 ^ 60) : divG x y = some (x / y) := if_pos ⟨h, Nat.lt_of_le_of_lt hy (by decide +kernel)⟩
theorem modG_eq {x y : Int} (h : 0 < y) : modG x y = some (x % y) := if_pos h
theorem rgG_eq {a b : Int} (h1 : 0 ≤ a) (h2 : a ≤ 16777216) (h3 : 0 ≤ b) (h4 : b ≤ 16777216) : rgG a b = some (rgL a b) := if_pos ⟨h1, h2, h3, h4⟩
theorem appG_eq {α : Type} {xs : List α} {y : α} (h : xs.length < 16777216) : appG xs y = some (xs ++ [y]) := if_pos h
theorem rgL_len (a b : Int) : (rgL a b).length = (b - a).toNat := by unfold rgL; rw [List.length_map, List.length_range]
theorem mem_rgL {a b x : Int} : x ∈ rgL a b ↔ a ≤ x ∧ x < b := by
  unfold rgL
  rw [List.mem_map]
  constructor
  · rintro ⟨i, h, rfl⟩
    rw [List.mem_range] at h
    omega
  · intro h
    exact ⟨(x - a).toNat, by rw [List.mem_range]; omega, by omega⟩
theorem rgL_succ {b : Nat} : rgL 0 ((b : Int) + 1) = rgL 0 (b : Int) ++ [(b : Int)] := by
  unfold rgL
  have e1 : (((b : Int) + 1) - 0).toNat = b + 1 := by omega
  have e2 : ((b : Int) - 0).toNat = b := by omega
  rw [e1, e2, List.range_succ, List.map_append]
  simp
/-! ### places -/
theorem ixN_pos {n : Nat} {i : Nat} (h : i < n) : ixN n (i : Int) = some i := by
  unfold ixN
  rw [if_pos (by omega), if_pos (by omega)]
  simp
theorem atG_pos {α : Type} {xs : List α} {i : Nat} (h : i < xs.length) : atG xs (i : Int) = some xs[i] := by
  show (ixN xs.length (i : Int)).bind _ = _
  rw [ixN_pos h]
  exact List.getElem?_eq_getElem h
theorem atG_get {α : Type} {xs : List α} {i : Nat} : atG xs (i : Int) = xs[i]? := by
  by_cases h : i < xs.length
  · rw [atG_pos h, List.getElem?_eq_getElem h]
  · rw [List.getElem?_eq_none (by omega)]
    show (ixN xs.length (i : Int)).bind _ = _
    unfold ixN
    rw [if_pos (by omega), if_neg (by omega)]
    rfl
theorem ixN_last {n : Nat} (h : 0 < n) : ixN n (-(1 : Int)) = some (n - 1) := by
  unfold ixN
  rw [if_neg (by omega), if_pos (by omega)]
  congr 1
  omega
theorem atG_last {α : Type} {xs : List α} {x : α} : atG (xs ++ [x]) (-(1 : Int)) = some x := by
  show (ixN _ _).bind _ = _
  rw [ixN_last (by simp)]
  show (xs ++ [x])[_]? = _
  rw [List.length_append, List.length_singleton, Nat.add_sub_cancel, List.getElem?_append_right (Nat.le_refl _)]
  simp
theorem setG_last {α : Type} {xs : List α} {x y : α} : setG (xs ++ [x]) (-(1 : Int)) y = some (xs ++ [y]) := by
  unfold setG
  rw [ixN_last (by simp)]
  show some ((xs ++ [x]).set _ y) = _
  rw [List.length_append, List.length_singleton, Nat.add_sub_cancel, List.set_append_right _ _ (Nat.le_refl _)]
  simp
/-! ### loops -/
theorem forM_nil {S α : Type} (f : S → α → Option S) (s : S) : forM f [] s = some s := rfl
theorem forM_cons {S α : Type} (f : S → α → Option S) (x : α) (xs : List α) (s : S) : forM f (x :: xs) s = (f s x).bind fun s' => forM f xs s' := rfl
theorem forM_app {S α : Type} (f : S → α → Option S) : ∀ (xs ys : List α) (s : S), forM f (xs ++ ys) s = (forM f xs s).bind fun s' => forM f ys s'
  | [], _, _ => rfl
  | x :: xs, ys, s => by
    show (f s x).bind _ = ((f s x).bind _).bind _
    rw [Option.bind_assoc]
    congr 1; funext s'
    exact forM_app f xs ys s'
/-- a loop whose turns succeed under an invariant: the fold -/
theorem forM_fold {S α : Type} {f : S → α → Option S} {g : S → α → S} (I : S → Prop) : ∀ (xs : List α) (s : S), I s → (∀ s x, x ∈ xs → I s → f s x = some (g s x) ∧ I (g s x)) → forM f xs s = some (xs.foldl g s) ∧ I (xs.foldl g s)
  | [], s, hi, _ => ⟨rfl, hi⟩
  | x :: xs, s, hi, h => by
    obtain ⟨e, hi'⟩ := h s x (List.mem_cons_self ..) hi
    rw [forM_cons, e]
    exact forM_fold I xs (g s x) hi' fun s y m i => h s y (List.mem_cons_of_mem _ m) i
/-- an invariant that knows how far the loop is -/
theorem forM_inv {S α : Type} {f : S → α → Option S} (I : List α → S → Prop) (ys : List α) : ∀ (xs : List α) (s : S), I ys s → (∀ zs x s, I (ys ++ zs) s → (∃ r, xs = zs ++ x :: r) → ∃ s', f s x = some s' ∧ I (ys ++ zs ++ [x]) s') → ∃ s', forM f xs s = some s' ∧ I (ys ++ xs) s'
  | [], s, hi, _ => ⟨s, rfl, by rw [List.append_nil]; exact hi⟩
  | x :: xs, s, hi, h => by
    obtain ⟨s1, e, hi1⟩ := h [] x s (by rw [List.append_nil]; exact hi) ⟨xs, rfl⟩
    rw [forM_cons, e]
    rw [List.append_nil] at hi1
    obtain ⟨s2, e2, hi2⟩ := forM_inv I (ys ++ [x]) xs s1 hi1 fun zs y s hz ⟨r, hr⟩ => by
      have := h (x :: zs) y s (by rw [List.append_assoc] at hz; exact hz) ⟨r, by rw [hr]; rfl⟩
      obtain ⟨s', q1, q2⟩ := this
      refine ⟨s', q1, ?_⟩
      rw [List.append_assoc, List.append_assoc, List.cons_append, List.nil_append] 
      rw [List.append_assoc, List.cons_append] at q2
      exact q2
    exact ⟨s2, e2, by rw [List.append_assoc] at hi2; exact hi2⟩
theorem forL_nil {S α ρ : Type} (f : S → α → Option (Out S S ρ)) (s : S) : forL f [] s = some (.dn s) := rfl
theorem forL_nx {S α ρ : Type} {f : S → α → Option (Out S S ρ)} {x : α} {xs : List α} {s s' : S} (h : f s x = some (.nx s')) : forL f (x :: xs) s = forL f xs s' := by
  show (f s x).bind _ = _; rw [h]; rfl
theorem forL_ct {S α ρ : Type} {f : S → α → Option (Out S S ρ)} {x : α} {xs : List α} {s s' : S} (h : f s x = some (.lv (.ct s'))) : forL f (x :: xs) s = forL f xs s' := by
  show (f s x).bind _ = _; rw [h]; rfl
theorem forL_bk {S α ρ : Type} {f : S → α → Option (Out S S ρ)} {x : α} {xs : List α} {s s' : S} (h : f s x = some (.lv (.bk s'))) : forL f (x :: xs) s = some (.dn s') := by
  show (f s x).bind _ = _; rw [h]; rfl
theorem forL_rt {S α ρ : Type} {f : S → α → Option (Out S S ρ)} {x : α} {xs : List α} {s : S} {r : ρ} (h : f s x = some (.lv (.rt r))) : forL f (x :: xs) s = some (.rt r) := by
  show (f s x).bind _ = _; rw [h]; rfl
/-- a loop that always goes on -/
theorem forL_inv {S α ρ : Type} {f : S → α → Option (Out S S ρ)} (I : List α → S → Prop) (ys : List α) : ∀ (xs : List α) (s : S), I ys s → (∀ zs x s, I (ys ++ zs) s → (∃ r, xs = zs ++ x :: r) → ∃ s', (f s x = some (.nx s') ∨ f s x = some (.lv (.ct s'))) ∧ I (ys ++ zs ++ [x]) s') → ∃ s', forL f xs s = some (.dn s') ∧ I (ys ++ xs) s'
  | [], s, hi, _ => ⟨s, rfl, by rw [List.append_nil]; exact hi⟩
  | x :: xs, s, hi, h => by
    obtain ⟨s1, e, hi1⟩ := h [] x s (by rw [List.append_nil]; exact hi) ⟨xs, rfl⟩
    have e1 : forL f (x :: xs) s = forL f xs s1 := e.elim forL_nx forL_ct
    rw [e1]
    rw [List.append_nil] at hi1
    obtain ⟨s2, e2, hi2⟩ := forL_inv I (ys ++ [x]) xs s1 hi1 fun zs y s hz ⟨r, hr⟩ => by
      obtain ⟨s', q1, q2⟩ := h (x :: zs) y s (by rw [List.append_assoc] at hz; exact hz) ⟨r, by rw [hr]; rfl⟩
      refine ⟨s', q1, ?_⟩
      rw [List.append_assoc, List.append_assoc, List.cons_append, List.nil_append]
      rw [List.append_assoc, List.cons_append] at q2
      exact q2
    exact ⟨s2, e2, by rw [List.append_assoc] at hi2; exact hi2⟩
/-! ### comprehensions -/
theorem lcM_some {α β : Type} {c : α → Option Bool} {f : α → Option β} {c' : α → Bool} {f' : α → β} : ∀ (xs : List α), (∀ x, x ∈ xs → c x = some (c' x) ∧ (c' x = true → f x = some (f' x))) → lcM c f xs = some ((xs.filter c').map f')
  | [], _ => rfl
  | x :: xs, h => by
    obtain ⟨h1, h2⟩ := h x (List.mem_cons_self ..)
    have ih := lcM_some xs fun y m => h y (List.mem_cons_of_mem _ m)
    show (c x).bind _ = _
    rw [h1, bd_s]
    cases hc : c' x with
    | true =>
      rw [if_pos rfl, h2 hc, bd_s, ih, bd_s, List.filter_cons_of_pos hc]; rfl
    | false => rw [if_neg (by decide), ih, List.filter_cons_of_neg (by rw [hc]; decide)]
theorem lcM_all {α β : Type} {f : α → Option β} {f' : α → β} : ∀ (xs : List α), (∀ x, x ∈ xs → f x = some (f' x)) → lcM (fun _ => some true) f xs = some (xs.map f')
  | [], _ => rfl
  | x :: xs, h => by
    show (f x).bind _ = _
    rw [h x (List.mem_cons_self ..), bd_s, lcM_all xs fun y m => h y (List.mem_cons_of_mem _ m)]
    rfl
/-! ### sorting -/
theorem srtI_mem {x : Int} {xs : List Int} : x ∈ srtI xs ↔ x ∈ xs := (List.mergeSort_perm xs _).mem_iff
theorem srtI_len (xs : List Int) : (srtI xs).length = xs.length := (List.mergeSort_perm xs _).length_eq
theorem srtI_le (xs : List Int) : (srtI xs).Pairwise (· ≤ ·) := by
  have h := List.pairwise_mergeSort (le := fun a b : Int => decide (a ≤ b)) (fun a b c h1 h2 => by simp only [decide_eq_true_eq] at *; omega) (fun a b => by simp only [Bool.or_eq_true, decide_eq_true_eq]; omega) xs
  exact h.imp fun z => of_decide_eq_true z
theorem srtI_lt {xs : List Int} (h : xs.Nodup) : (srtI xs).Pairwise (· < ·) := by
  have h1 := srtI_le xs
  have h2 : (srtI xs).Nodup := (List.mergeSort_perm xs _).nodup_iff.mpr h
  exact (List.Pairwise.and h1 h2).imp fun ⟨a, b⟩ => by omega
theorem srtI_two (a b : Int) : srtI [a, b] = if a ≤ b then [a, b] else [b, a] := by
  have p := List.mergeSort_perm [a, b] (fun a b : Int => decide (a ≤ b))
  have q := srtI_le [a, b]
  have l := srtI_len [a, b]
  have m1 : a ∈ srtI [a, b] := srtI_mem.mpr (by simp)
  have m2 : b ∈ srtI [a, b] := srtI_mem.mpr (by simp)
  have m3 : ∀ x, x ∈ srtI [a, b] → x = a ∨ x = b := fun x h => by simpa using srtI_mem.mp h
  have pc : ∀ x, (srtI [a, b]).count x = [a, b].count x := fun x => p.count_eq x
  match e : srtI [a, b], l with
  | [c, d], _ =>
    rw [e] at q m1 m2 m3 pc
    have hcd : c ≤ d := by simpa using q
    have c1 := m3 c (by simp)
    have d1 := m3 d (by simp)
    simp only [List.mem_cons, List.not_mem_nil, or_false] at m1 m2
    split
    · have : c = a ∧ d = b := by omega
      rw [this.1, this.2]
    · have : c = b ∧ d = a := by omega
      rw [this.1, this.2]
/-- keys -/
theorem keyG_eq {xs : List Int} {k : Int} (h : xs.length < 16777216) : keyG xs k = some (if k ∈ xs then xs else xs ++ [k]) := if_pos h
end L2.M
set_option Elab.async false
set_option linter.all false
set_option maxRecDepth 100000
/-! Ratios in lowest terms. -/
namespace L2.M
open L2.T

/-- z over d, in lowest terms (d above 0) -/
def nf (z d : Int) : Int × Int := (z / (Nat.gcd z.natAbs d.natAbs : Nat), d / (Nat.gcd z.natAbs d.natAbs : Nat))
theorem nf_spec {z d : Int} (hd : 0 < d) : ∃ g : Int, 0 < g ∧ z = g * (nf z d).1 ∧ d = g * (nf z d).2 ∧ 0 < (nf z d).2 ∧ Nat.gcd (nf z d).1.natAbs (nf z d).2.natAbs = 1 := by
  have gp : 0 < Nat.gcd z.natAbs d.natAbs := Nat.gcd_pos_of_pos_right _ (by omega)
  have g1 : ((Nat.gcd z.natAbs d.natAbs : Nat) : Int) ∣ z := Int.ofNat_dvd_left.mpr (Nat.gcd_dvd_left ..)
  have g2 : ((Nat.gcd z.natAbs d.natAbs : Nat) : Int) ∣ d := Int.ofNat_dvd_left.mpr (Nat.gcd_dvd_right ..)
  have gi : 0 < ((Nat.gcd z.natAbs d.natAbs : Nat) : Int) := by omega
  refine ⟨_, gi, (Int.mul_ediv_cancel' g1).symm, (Int.mul_ediv_cancel' g2).symm, Int.ediv_pos_of_pos_of_dvd hd (Int.le_of_lt gi) g2, ?_⟩
  show Nat.gcd (z / _).natAbs (d / _).natAbs = 1
  have e1 : (z / (Nat.gcd z.natAbs d.natAbs : Nat)).natAbs = z.natAbs / Nat.gcd z.natAbs d.natAbs := by
    obtain ⟨k, hk⟩ := g1
    have : z / ((Nat.gcd z.natAbs d.natAbs : Nat) : Int) = k := Int.ediv_eq_of_eq_mul_right (by omega) hk
    rw [this]
    have hz : z.natAbs = Nat.gcd z.natAbs d.natAbs * k.natAbs := by
      have := congrArg Int.natAbs hk
      rwa [Int.natAbs_mul, Int.natAbs_natCast] at this
    exact (Nat.div_eq_of_eq_mul_right gp hz).symm
  have e2 : (d / (Nat.gcd z.natAbs d.natAbs : Nat)).natAbs = d.natAbs / Nat.gcd z.natAbs d.natAbs := by
    obtain ⟨k, hk⟩ := g2
    have : d / ((Nat.gcd z.natAbs d.natAbs : Nat) : Int) = k := Int.ediv_eq_of_eq_mul_right (by omega) hk
    rw [this]
    have hz : d.natAbs = Nat.gcd z.natAbs d.natAbs * k.natAbs := by
      have := congrArg Int.natAbs hk
      rwa [Int.natAbs_mul, Int.natAbs_natCast] at this
    exact (Nat.div_eq_of_eq_mul_right gp hz).symm
  rw [e1, e2]
  rw [Nat.gcd_div (Nat.gcd_dvd_left ..) (Nat.gcd_dvd_right ..), Nat.div_self gp]
theorem nf_pos {z d : Int} (hd : 0 < d) : 0 < (nf z d).2 := by obtain ⟨g, _, _, _, h, _⟩ := nf_spec (z := z) hd; exact h
theorem nf_cop {z d : Int} (hd : 0 < d) : Nat.gcd (nf z d).1.natAbs (nf z d).2.natAbs = 1 := by obtain ⟨g, _, _, _, _, h⟩ := nf_spec (z := z) hd; exact h
theorem nf_cross {z d : Int} (hd : 0 < d) : (nf z d).1 * d = z * (nf z d).2 := by
  obtain ⟨g, _, h1, h2, _, _⟩ := nf_spec (z := z) hd
  generalize (nf z d).1 = a at *
  generalize (nf z d).2 = b at *
  subst h1; subst h2
  rw [← Int.mul_assoc, Int.mul_comm a g]
theorem nf_le {z d : Int} (hd : 0 < d) : (nf z d).1.natAbs ≤ z.natAbs ∧ (nf z d).2.natAbs ≤ d.natAbs := by
  obtain ⟨g, g0, h1, h2, _, _⟩ := nf_spec (z := z) hd
  have e1 := congrArg Int.natAbs h1
  have e2 := congrArg Int.natAbs h2
  rw [Int.natAbs_mul] at e1 e2
  have gg : 1 ≤ g.natAbs := by omega
  exact ⟨by rw [e1]; exact Nat.le_mul_of_pos_left _ gg, by rw [e2]; exact Nat.le_mul_of_pos_left _ gg⟩
/-- two in lowest terms are the same exactly if they are worth the same -/
theorem low_eq {a b c e : Int} (hb : 0 < b) (he : 0 < e) (h1 : Nat.gcd a.natAbs b.natAbs = 1) (h2 : Nat.gcd c.natAbs e.natAbs = 1) (h : a * e = c * b) : a = c ∧ b = e := by
  have n := congrArg Int.natAbs h
  rw [Int.natAbs_mul, Int.natAbs_mul] at n
  have d1 : b.natAbs ∣ e.natAbs := by
    have : b.natAbs ∣ a.natAbs * e.natAbs := by rw [n]; exact Nat.dvd_mul_left ..
    exact Nat.Coprime.dvd_of_dvd_mul_left (Nat.Coprime.symm h1) this
  have d2 : e.natAbs ∣ b.natAbs := by
    have : e.natAbs ∣ c.natAbs * b.natAbs := by rw [← n]; exact Nat.dvd_mul_left ..
    exact Nat.Coprime.dvd_of_dvd_mul_left (Nat.Coprime.symm h2) this
  have eb : b.natAbs = e.natAbs := Nat.dvd_antisymm d1 d2
  have eb' : b = e := by omega
  subst eb'
  exact ⟨Int.eq_of_mul_eq_mul_right (by omega) h, rfl⟩
theorem nf_eq {z d w e : Int} (hd : 0 < d) (he : 0 < e) : nf z d = nf w e ↔ z * e = w * d := by
  obtain ⟨g, g0, h1, h2, p1, c1⟩ := nf_spec (z := z) hd
  obtain ⟨k, k0, h3, h4, p2, c2⟩ := nf_spec (z := w) he
  have a1 : (nf z d) = ((nf z d).1, (nf z d).2) := rfl
  have a2 : (nf w e) = ((nf w e).1, (nf w e).2) := rfl
  constructor
  · intro h
    rw [h] at h1 h2
    generalize (nf w e).1 = a at *
    generalize (nf w e).2 = b at *
    subst h1; subst h2; subst h3; subst h4
    simp only [Int.mul_assoc, Int.mul_comm, Int.mul_left_comm]
  · intro h
    rw [a1, a2]
    generalize (nf z d).1 = a at *
    generalize (nf z d).2 = b at *
    generalize (nf w e).1 = a' at *
    generalize (nf w e).2 = b' at *
    have hh : a * b' = a' * b := by
      have gk : g * k ≠ 0 := by
        have := Int.mul_pos g0 k0
        omega
      apply Int.eq_of_mul_eq_mul_left gk
      rw [h1, h2, h3, h4] at h
      calc g * k * (a * b') = g * a * (k * b') := by simp only [Int.mul_assoc, Int.mul_comm, Int.mul_left_comm]
        _ = k * a' * (g * b) := h
        _ = g * k * (a' * b) := by simp only [Int.mul_assoc, Int.mul_comm, Int.mul_left_comm]
    obtain ⟨q1, q2⟩ := low_eq p1 p2 c1 c2 hh
    rw [q1, q2]
theorem nf_self {a b : Int} (hb : 0 < b) (h : Nat.gcd a.natAbs b.natAbs = 1) : nf a b = (a, b) := by
  have e : (Nat.gcd a.natAbs b.natAbs : Int) = 1 := by rw [h]; rfl
  unfold nf
  rw [e, Int.ediv_one, Int.ediv_one]
theorem nf_of {a b z d : Int} (hb : 0 < b) (hd : 0 < d) (h : a * d = z * b) : nf a b = nf z d := (nf_eq hb hd).mpr h
/-- order -/
theorem nf_cmp {z w d e : Int} (hd : 0 < d) (he : 0 < e) : ((nf z d).1 * (nf w e).2 < (nf w e).1 * (nf z d).2 ↔ z * e < w * d) ∧ ((nf z d).1 * (nf w e).2 > (nf w e).1 * (nf z d).2 ↔ z * e > w * d) := by
  obtain ⟨g, g0, h1, h2, p1, _⟩ := nf_spec (z := z) hd
  obtain ⟨k, k0, h3, h4, p2, _⟩ := nf_spec (z := w) he
  generalize (nf z d).1 = a at *
  generalize (nf z d).2 = b at *
  generalize (nf w e).1 = a' at *
  generalize (nf w e).2 = b' at *
  have gk := Int.mul_pos g0 k0
  have e1 : g * k * (a * b') = z * e := by
    calc g * k * (a * b') = (g * a) * (k * b') := by simp only [Int.mul_assoc, Int.mul_comm, Int.mul_left_comm]
      _ = z * e := by rw [← h1, ← h4]
  have e2 : g * k * (a' * b) = w * d := by
    calc g * k * (a' * b) = (k * a') * (g * b) := by simp only [Int.mul_assoc, Int.mul_comm, Int.mul_left_comm]
      _ = w * d := by rw [← h3, ← h2]
  rw [← e1, ← e2]
  exact ⟨⟨fun h => Int.mul_lt_mul_of_pos_left h gk, fun h => Int.lt_of_mul_lt_mul_left h (Int.le_of_lt gk)⟩, ⟨fun h => Int.mul_lt_mul_of_pos_left h gk, fun h => Int.lt_of_mul_lt_mul_left h (Int.le_of_lt gk)⟩⟩

/-! ### the defs' mirrors, under names of their own -/
def lowG (top_1 : Int) (bottom_1 : Int) : Option (Int × Int) :=
  (bIf (some (decide (bottom_1 < (0 : Int)))) ((some (-top_1)).bind (fun top_2 => (some (-bottom_1)).bind (fun bottom_2 => some (top_2, bottom_2)))) (some (top_1, bottom_1))).bind (fun j_1 => (some ((Nat.gcd j_1.1.natAbs j_1.2.natAbs : Nat) : Int)).bind (fun part_1 => (b2 (divG j_1.1 part_1) (b2 (divG j_1.2 part_1) (some ()) (fun x y => some (x, y))) (fun x y => some (x, y))).map (fun t => (t.1, t.2.1))))
def plusG (one_1 : (Int × Int)) (two_1 : (Int × Int)) : Option (Int × Int) :=
  (b2 (b2 (mulG one_1.1 two_1.2) (mulG two_1.1 one_1.2) (fun x y => some (x + y))) (b2 (mulG one_1.2 two_1.2) (some ()) (fun x y => some (x, y))) (fun x y => some (x, y))).bind (fun t => lowG t.1 t.2.1)
def minusG (one_1 : (Int × Int)) (two_1 : (Int × Int)) : Option (Int × Int) :=
  (b2 (b2 (mulG one_1.1 two_1.2) (mulG two_1.1 one_1.2) (fun x y => some (x - y))) (b2 (mulG one_1.2 two_1.2) (some ()) (fun x y => some (x, y))) (fun x y => some (x, y))).bind (fun t => lowG t.1 t.2.1)
def timesG (one_1 : (Int × Int)) (two_1 : (Int × Int)) : Option (Int × Int) :=
  (b2 (mulG one_1.1 two_1.1) (b2 (mulG one_1.2 two_1.2) (some ()) (fun x y => some (x, y))) (fun x y => some (x, y))).bind (fun t => lowG t.1 t.2.1)
def cmpG (one_1 : (Int × Int)) (two_1 : (Int × Int)) : Option Int :=
  (mulG one_1.1 two_1.2).bind (fun left_1 => (mulG two_1.1 one_1.2).bind (fun right_1 => bIf (some (decide (left_1 < right_1))) (some (-(1 : Int))) (some (if (decide (left_1 > right_1)) = true then (1 : Int) else (0 : Int)))))
def lgcdB (s_1 : Int × Int) (step_1 : Int) : Option (Out (Int × Int) (Int × Int) Int) :=
  bIf (some (decide (s_1.2 = (0 : Int)))) ((some (Lv.bk (s_1.1, s_1.2))).map Out.lv) ((b2 (some s_1.2) (b2 (modG s_1.1 s_1.2) (some ()) (fun x y => some (x, y))) (fun x y => some (x, y))).bind (fun t_1 => (fun a_3 b_3 => some (Out.nx (a_3, b_3))) t_1.1 t_1.2.1))
def lgcdG (a_1 : Int) (b_1 : Int) : Option Int :=
  (some (if a_1 < 0 then -a_1 else a_1)).bind (fun a_2 => (some (if b_1 < 0 then -b_1 else b_1)).bind (fun b_2 => loR ((rgG 0 (4000 : Int)).bind (fun xs => forL (lgcdB) xs (a_2, b_2))) (fun s_2 => some s_2.1)))
def lratG (top_1 : Int) (bottom_1 : Int) : Option (Int × Int) :=
  (bIf (some (decide (bottom_1 < (0 : Int)))) ((some (-top_1)).bind (fun top_2 => (some (-bottom_1)).bind (fun bottom_2 => some (top_2, bottom_2)))) (some (top_1, bottom_1))).bind (fun j_1 => (lgcdG j_1.1 j_1.2).bind (fun part_1 => (b2 (divG j_1.1 part_1) (b2 (divG j_1.2 part_1) (some ()) (fun x y => some (x, y))) (fun x y => some (x, y))).map (fun t => (t.1, t.2.1))))

theorem gcd_le60 {z d : Int} (hd : 0 < d) (h : d.natAbs ≤ 10 ^ 60) : 0 < ((Nat.gcd z.natAbs d.natAbs : Nat) : Int) ∧ ((Nat.gcd z.natAbs d.natAbs : Nat) : Int).natAbs ≤ 10 ^ 60 := by
  have p : 0 < Nat.gcd z.natAbs d.natAbs := Nat.gcd_pos_of_pos_right _ (by omega)
  have q : Nat.gcd z.natAbs d.natAbs ≤ d.natAbs := Nat.gcd_le_right _ (by omega)
  exact ⟨by omega, by rw [Int.natAbs_natCast]; exact Nat.le_trans q h⟩
theorem lowG_eq {t b : Int} (hb : 0 < b) (hB : b.natAbs ≤ 10 ^ 60) : lowG t b = some (nf t b) := by
  obtain ⟨p, q⟩ := gcd_le60 (z := t) hb hB
  unfold lowG
  rw [decide_eq_false (by omega), bIf_s, if_neg (by decide), bd_s, bd_s, divG_eq p q, divG_eq p q]
  rfl
theorem mul60 {x y : Int} (hx : x.natAbs ≤ 10 ^ 25) (hy : y.natAbs ≤ 10 ^ 25) : (x * y).natAbs ≤ 10 ^ 50 := by
  rw [Int.natAbs_mul]
  exact Nat.le_trans (Nat.mul_le_mul hx hy) (by decide)
theorem le60 {x : Int} (hx : x.natAbs ≤ 10 ^ 25) : x.natAbs ≤ 10 ^ 60 := Nat.le_trans hx (by decide)
section
variable {z d w e : Int} (hd : 0 < d) (he : 0 < e) (bz : z.natAbs ≤ 10 ^ 25) (bd : d.natAbs ≤ 10 ^ 25) (bw : w.natAbs ≤ 10 ^ 25) (be : e.natAbs ≤ 10 ^ 25)
include hd he bz bd bw be
theorem plusG_eq : plusG (nf z d) (nf w e) = some (nf (z * e + w * d) (d * e)) := by
  have n1 := nf_le (z := z) hd
  have n2 := nf_le (z := w) he
  have b1 := Nat.le_trans n1.1 bz
  have b2' := Nat.le_trans n1.2 bd
  have b3 := Nat.le_trans n2.1 bw
  have b4 := Nat.le_trans n2.2 be
  unfold plusG
  rw [mulG_eq (le60 b1) (le60 b4), mulG_eq (le60 b3) (le60 b2'), mulG_eq (le60 b2') (le60 b4)]
  show lowG _ _ = _
  have p1 := nf_pos (z := z) hd
  have p2 := nf_pos (z := w) he
  have c1 := nf_cross (z := z) hd
  have c2 := nf_cross (z := w) he
  generalize (nf z d).1 = a at *
  generalize (nf z d).2 = b at *
  generalize (nf w e).1 = a' at *
  generalize (nf w e).2 = b' at *
  have pb := Int.mul_pos p1 p2
  rw [lowG_eq pb (Nat.le_trans (mul60 b2' b4) (by decide))]
  congr 1
  refine nf_of pb (Int.mul_pos hd he) ?_
  calc (a * b' + a' * b) * (d * e) = (a * d) * (b' * e) + (a' * e) * (b * d) := by rw [Int.add_mul]; simp only [Int.mul_assoc, Int.mul_comm, Int.mul_left_comm]
    _ = (z * b) * (b' * e) + (w * b') * (b * d) := by rw [c1, c2]
    _ = (z * e + w * d) * (b * b') := by rw [Int.add_mul]; simp only [Int.mul_assoc, Int.mul_comm, Int.mul_left_comm]
theorem minusG_eq : minusG (nf z d) (nf w e) = some (nf (z * e - w * d) (d * e)) := by
  have n1 := nf_le (z := z) hd
  have n2 := nf_le (z := w) he
  have b1 := Nat.le_trans n1.1 bz
  have b2' := Nat.le_trans n1.2 bd
  have b3 := Nat.le_trans n2.1 bw
  have b4 := Nat.le_trans n2.2 be
  unfold minusG
  rw [mulG_eq (le60 b1) (le60 b4), mulG_eq (le60 b3) (le60 b2'), mulG_eq (le60 b2') (le60 b4)]
  show lowG _ _ = _
  have p1 := nf_pos (z := z) hd
  have p2 := nf_pos (z := w) he
  have c1 := nf_cross (z := z) hd
  have c2 := nf_cross (z := w) he
  generalize (nf z d).1 = a at *
  generalize (nf z d).2 = b at *
  generalize (nf w e).1 = a' at *
  generalize (nf w e).2 = b' at *
  have pb := Int.mul_pos p1 p2
  rw [lowG_eq pb (Nat.le_trans (mul60 b2' b4) (by decide))]
  congr 1
  refine nf_of pb (Int.mul_pos hd he) ?_
  calc (a * b' - a' * b) * (d * e) = (a * d) * (b' * e) - (a' * e) * (b * d) := by rw [Int.sub_mul]; simp only [Int.mul_assoc, Int.mul_comm, Int.mul_left_comm]
    _ = (z * b) * (b' * e) - (w * b') * (b * d) := by rw [c1, c2]
    _ = (z * e - w * d) * (b * b') := by rw [Int.sub_mul]; simp only [Int.mul_assoc, Int.mul_comm, Int.mul_left_comm]
theorem timesG_eq : timesG (nf z d) (nf w e) = some (nf (z * w) (d * e)) := by
  have n1 := nf_le (z := z) hd
  have n2 := nf_le (z := w) he
  have b1 := Nat.le_trans n1.1 bz
  have b2' := Nat.le_trans n1.2 bd
  have b3 := Nat.le_trans n2.1 bw
  have b4 := Nat.le_trans n2.2 be
  unfold timesG
  rw [mulG_eq (le60 b1) (le60 b3), mulG_eq (le60 b2') (le60 b4)]
  show lowG _ _ = _
  have p1 := nf_pos (z := z) hd
  have p2 := nf_pos (z := w) he
  have c1 := nf_cross (z := z) hd
  have c2 := nf_cross (z := w) he
  generalize (nf z d).1 = a at *
  generalize (nf z d).2 = b at *
  generalize (nf w e).1 = a' at *
  generalize (nf w e).2 = b' at *
  have pb := Int.mul_pos p1 p2
  rw [lowG_eq pb (Nat.le_trans (mul60 b2' b4) (by decide))]
  congr 1
  refine nf_of pb (Int.mul_pos hd he) ?_
  calc a * a' * (d * e) = (a * d) * (a' * e) := by simp only [Int.mul_assoc, Int.mul_comm, Int.mul_left_comm]
    _ = (z * b) * (w * b') := by rw [c1, c2]
    _ = z * w * (b * b') := by simp only [Int.mul_assoc, Int.mul_comm, Int.mul_left_comm]
theorem cmpG_eq : cmpG (nf z d) (nf w e) = some (if z * e < w * d then -1 else if z * e > w * d then 1 else 0) := by
  have n1 := nf_le (z := z) hd
  have n2 := nf_le (z := w) he
  have b1 := Nat.le_trans n1.1 bz
  have b2' := Nat.le_trans n1.2 bd
  have b3 := Nat.le_trans n2.1 bw
  have b4 := Nat.le_trans n2.2 be
  obtain ⟨c1, c2⟩ := nf_cmp (z := z) (w := w) hd he
  unfold cmpG
  rw [mulG_eq (le60 b1) (le60 b4), mulG_eq (le60 b3) (le60 b2'), bd_s, bd_s, bIf_s]
  simp only [decide_eq_true_eq]
  by_cases h : z * e < w * d
  · rw [if_pos (c1.mpr h), if_pos h]
  · rw [if_neg (fun q => h (c1.mp q)), if_neg h]
    by_cases h2 : z * e > w * d
    · rw [if_pos (c2.mpr h2), if_pos h2]
    · rw [if_neg (fun q => h2 (c2.mp q)), if_neg h2]
end
/-! ### the law's own greatest common divisor -/
theorem lgcd_loop : ∀ (k : Nat) (a b : Nat) (xs : List Int), b < 2 ^ k → 2 * k + 1 ≤ xs.length → forL lgcdB xs ((a : Int), (b : Int)) = some (.dn (((Nat.gcd a b : Nat) : Int), 0)) := by
  have brk : ∀ (a : Nat) (x : Int) (xs : List Int), forL lgcdB (x :: xs) ((a : Int), (0 : Int)) = some (.dn ((a : Int), 0)) := fun a x xs => forL_bk (by rfl)
  have step : ∀ (a b : Nat) (x : Int) (xs : List Int), 0 < b → forL lgcdB (x :: xs) ((a : Int), (b : Int)) = forL lgcdB xs ((b : Int), ((a % b : Nat) : Int)) := fun a b x xs h => forL_nx (by
    unfold lgcdB
    dsimp only
    rw [decide_eq_false (by omega), bIf_s, if_neg (by decide), modG_eq (by omega)]
    rfl)
  intro k
  induction k with
  | zero =>
    intro a b xs hb hl
    have : b = 0 := by simpa using hb
    subst this
    match xs, hl with
    | x :: xs, _ => rw [Nat.gcd_zero_right]; exact brk a x xs
  | succ k ih =>
    intro a b xs hb hl
    match xs, hl with
    | x :: y :: xs, hl =>
      by_cases h0 : b = 0
      · subst h0; rw [Nat.gcd_zero_right]; exact brk a x _
      · have hb0 : 0 < b := by omega
        rw [step a b x _ hb0]
        have lt := Nat.mod_lt a hb0
        by_cases h1 : a % b = 0
        · rw [h1]
          have : Nat.gcd a b = b := by rw [Nat.gcd_comm, Nat.gcd_rec, Nat.gcd_comm, h1, Nat.gcd_zero_right]
          rw [this]
          exact brk b y xs
        · rw [step b (a % b) y xs (by omega)]
          rw [ih]
          · rw [Nat.gcd_comm (a % b), ← Nat.gcd_rec (a % b) b, ← Nat.gcd_rec b a, Nat.gcd_comm]
          · have l2 := Nat.mod_lt b (show 0 < a % b by omega)
            rw [Nat.pow_succ] at hb
            by_cases h2 : a % b ≤ b / 2
            · omega
            · have : b % (a % b) = b - a % b := by
                rw [Nat.mod_eq_sub_mod (by omega)]
                exact Nat.mod_eq_of_lt (by omega)
              omega
          · simp only [List.length_cons] at hl; omega
theorem lgcdG_eq {a b : Int} (hb : b.natAbs < 2 ^ 1900) : lgcdG a b = some ((Nat.gcd a.natAbs b.natAbs : Nat) : Int) := by
  have ea : (if a < 0 then -a else a) = (a.natAbs : Int) := by omega
  have eb : (if b < 0 then -b else b) = (b.natAbs : Int) := by omega
  unfold lgcdG
  rw [ea, eb, bd_s, bd_s, rgG_eq (by decide) (by decide) (by decide) (by decide), bd_s, lgcd_loop 1900 _ _ _ hb (by rw [rgL_len]; decide)]
  rfl
theorem lratG_eq {t b : Int} (hb : 0 < b) (hB : b.natAbs ≤ 10 ^ 60) : lratG t b = some (nf t b) := by
  obtain ⟨p, q⟩ := gcd_le60 (z := t) hb hB
  unfold lratG
  rw [decide_eq_false (by omega), bIf_s, if_neg (by decide), bd_s, lgcdG_eq (Nat.lt_of_le_of_lt hB (by decide +kernel)), bd_s, divG_eq p q, divG_eq p q]
  rfl
/-- in lowest terms -/
theorem gcd_nf {z d : Int} (hd : 0 < d) : Nat.gcd (nf z d).1.natAbs (nf z d).2.natAbs = 1 := nf_cop hd
end L2.M
set_option Elab.async false
set_option linter.all false
set_option maxRecDepth 100000
/-! Labels of marks: what hangs together. -/
namespace L2.M
open L2.T

def labB (s_1 : (List Int)) (low_1 : (Int × Int)) : Option ((List Int)) :=
  (((b2 (b2 (atG s_1 low_1.1) (b2 (atG s_1 low_1.2) (some []) (fun x y => some (x :: y))) (fun x y => some (x :: y))) (some ()) (fun x y => some (x, y))).bind (fun t => some (srtI t.1))).bind unL2).bind (fun t_1 => (some (s_1.map (fun label_1 => (if (decide (label_1 = t_1.2)) = true then t_1.1 else label_1)))).bind (fun labels_2 => some labels_2))
def labG (count_1 : Int) (ties_1 : (List (Int × Int))) : Option (List Int) :=
  (rgG 0 (count_1 + (1 : Int))).bind (fun labels_1 => ((some ties_1).bind (fun xs => forM (labB) xs labels_1)).bind (fun s_2 => some s_2))
def llabB (s_1 : (List Int)) (tie_1 : (Int × Int)) : Option ((List Int)) :=
  (atG s_1 tie_1.1).bind (fun one_1 => (atG s_1 tie_1.2).bind (fun two_1 => (some (if two_1 < one_1 then two_1 else one_1)).bind (fun low_1 => ((some s_1).bind (fun xs => lcM (fun _ => some true) (fun label_1 => bIf (bOr (some (decide (label_1 = one_1))) (some (decide (label_1 = two_1)))) (some low_1) (some label_1)) xs)).bind (fun labels_2 => some labels_2))))
def llabG (count_1 : Int) (ties_1 : (List (Int × Int))) : Option (List Int) :=
  (rgG 0 (count_1 + (1 : Int))).bind (fun labels_1 => ((some ties_1).bind (fun xs => forM (llabB) xs labels_1)).bind (fun s_2 => some s_2))

theorem getD_lt {l : List Int} {i : Nat} (d : Int) (h : i < l.length) : l.getD i d = l[i] := by
  rw [List.getD_eq_getElem?_getD, List.getElem?_eq_getElem h]; rfl
def gt (l : List Int) (i : Int) : Int := l.getD i.toNat 0
def mrg (a b x : Int) : Int := if x = a ∨ x = b then (if b < a then b else a) else x
theorem mrg_in {a b x : Int} (h : x = a ∨ x = b) : mrg a b x = if b < a then b else a := if_pos h
theorem mrg_out {a b x : Int} (h : ¬ (x = a ∨ x = b)) : mrg a b x = x := if_neg h
def lstep (l : List Int) (t : Int × Int) : List Int := l.map (mrg (gt l t.1) (gt l t.2))
def lab (n : Nat) (ts : List (Int × Int)) : List Int := ts.foldl lstep (rgL 0 ((n : Int) + 1))
/-- ties among n marks and the mark 0 -/
def Ties (n : Nat) (ts : List (Int × Int)) : Prop := ∀ t, t ∈ ts → 0 ≤ t.1 ∧ t.1 ≤ n ∧ 0 ≤ t.2 ∧ t.2 ≤ n
theorem atG_gt {l : List Int} {i : Int} (h0 : 0 ≤ i) (h : i < l.length) : atG l i = some (gt l i) := by
  have e : i = (i.toNat : Int) := by omega
  have hl : i.toNat < l.length := by omega
  unfold gt
  rw [getD_lt _ hl]
  exact (congrArg (atG l) e).trans (atG_pos hl)
theorem labB_eq {l : List Int} {t : Int × Int} (h1 : 0 ≤ t.1) (h2 : t.1 < l.length) (h3 : 0 ≤ t.2) (h4 : t.2 < l.length) : labB l t = some (lstep l t) := by
  unfold labB
  rw [atG_gt h1 h2, atG_gt h3 h4]
  show ((some (srtI [gt l t.1, gt l t.2])).bind unL2).bind _ = _
  rw [srtI_two]
  unfold lstep
  generalize gt l t.1 = a
  generalize gt l t.2 = b
  by_cases h : a ≤ b
  · rw [if_pos h]
    show some (l.map _) = _
    congr 1
    refine List.map_congr_left fun x _ => ?_
    unfold mrg
    simp only [decide_eq_true_eq]
    by_cases e : x = b
    · rw [if_pos e, if_pos (.inr e), if_neg (by omega)]
    · rw [if_neg e]
      by_cases e2 : x = a
      · rw [if_pos (.inl e2), if_neg (by omega)]; exact e2
      · rw [if_neg (fun z => z.elim e2 e)]
  · rw [if_neg h]
    show some (l.map _) = _
    congr 1
    refine List.map_congr_left fun x _ => ?_
    unfold mrg
    simp only [decide_eq_true_eq]
    by_cases e : x = a
    · rw [if_pos e, if_pos (.inl e), if_pos (by omega)]
    · rw [if_neg e]
      by_cases e2 : x = b
      · rw [if_pos (.inr e2), if_pos (by omega)]; exact e2
      · rw [if_neg (fun z => z.elim e e2)]
theorem llabB_eq {l : List Int} {t : Int × Int} (h1 : 0 ≤ t.1) (h2 : t.1 < l.length) (h3 : 0 ≤ t.2) (h4 : t.2 < l.length) : llabB l t = some (lstep l t) := by
  unfold llabB
  rw [atG_gt h1 h2, atG_gt h3 h4, bd_s, bd_s, bd_s, bd_s]
  rw [lcM_all (f' := mrg (gt l t.1) (gt l t.2)) l fun x _ => by
    rw [bOr_s]
    by_cases e : x = gt l t.1
    · rw [decide_eq_true e, if_pos rfl, bIf_s, if_pos rfl, mrg_in (.inl e)]
    · rw [decide_eq_false e, if_neg (by decide), bIf_s]
      by_cases e2 : x = gt l t.2
      · rw [decide_eq_true e2, if_pos rfl, mrg_in (.inr e2)]
      · rw [decide_eq_false e2, if_neg (by decide), mrg_out (fun z => z.elim e e2)]]
  rfl
theorem lstep_len (l : List Int) (t : Int × Int) : (lstep l t).length = l.length := by unfold lstep; rw [List.length_map]
theorem lab_run {f : List Int → Int × Int → Option (List Int)} (hf : ∀ {l : List Int} {t : Int × Int}, 0 ≤ t.1 → t.1 < l.length → 0 ≤ t.2 → t.2 < l.length → f l t = some (lstep l t)) {n : Nat} {ts : List (Int × Int)} (h : Ties n ts) (l : List Int) (hl : l.length = n + 1) : forM f ts l = some (ts.foldl lstep l) ∧ (ts.foldl lstep l).length = n + 1 :=
  forM_fold (fun l => l.length = n + 1) ts l hl fun s t m hs => by
    obtain ⟨q1, q2, q3, q4⟩ := h t m
    exact ⟨hf q1 (by omega) q3 (by omega), by rw [lstep_len]; exact hs⟩
theorem labG_eq {n : Nat} {ts : List (Int × Int)} (h : Ties n ts) (hn : n ≤ 1000) : labG n ts = some (lab n ts) := by
  unfold labG
  rw [rgG_eq (by decide) (by decide) (by omega) (by omega), bd_s, bd_s, (lab_run labB_eq h _ (by rw [rgL_len]; omega)).1]
  rfl
theorem llabG_eq {n : Nat} {ts : List (Int × Int)} (h : Ties n ts) (hn : n ≤ 1000) : llabG n ts = some (lab n ts) := by
  unfold llabG
  rw [rgG_eq (by decide) (by decide) (by omega) (by omega), bd_s, bd_s, (lab_run llabB_eq h _ (by rw [rgL_len]; omega)).1]
  rfl
theorem lab_len {n : Nat} {ts : List (Int × Int)} (h : Ties n ts) : (lab n ts).length = n + 1 := (lab_run labB_eq h _ (by rw [rgL_len]; omega)).2
/-! ### what the labels tell -/
def at_ (l : List Int) (i : Nat) : Int := l.getD i 0
theorem at_step {l : List Int} {t : Int × Int} {i : Nat} (h : i < l.length) : at_ (lstep l t) i = mrg (gt l t.1) (gt l t.2) (at_ l i) := by
  unfold at_ lstep
  rw [getD_lt _ (by rw [List.length_map]; exact h), getD_lt _ h, List.getElem_map]
theorem mrg_eq {a b x y : Int} (h : mrg a b x = mrg a b y) : x = y ∨ ((x = a ∨ x = b) ∧ (y = a ∨ y = b)) := by
  unfold mrg at h
  by_cases h1 : x = a ∨ x = b
  · by_cases h2 : y = a ∨ y = b
    · exact .inr ⟨h1, h2⟩
    · rw [if_pos h1, if_neg h2] at h
      exfalso
      apply h2
      split at h
      · exact .inr h.symm
      · exact .inl h.symm
  · by_cases h2 : y = a ∨ y = b
    · rw [if_neg h1, if_pos h2] at h
      exfalso
      apply h1
      split at h
      · exact .inr h
      · exact .inl h
    · rw [if_neg h1, if_neg h2] at h
      exact .inl h
/-- labels that bind no more than the ties do -/
theorem lab_fine {n : Nat} {f : Nat → Int} : ∀ (ts : List (Int × Int)) (l : List Int), l.length = n + 1 → Ties n ts → (∀ t, t ∈ ts → f t.1.toNat = f t.2.toNat) → (∀ i j, i ≤ n → j ≤ n → at_ l i = at_ l j → f i = f j) → ∀ i j, i ≤ n → j ≤ n → at_ (ts.foldl lstep l) i = at_ (ts.foldl lstep l) j → f i = f j
  | [], l, _, _, _, h => h
  | t :: ts, l, hl, ht, hf, h => by
    obtain ⟨q1, q2, q3, q4⟩ := ht t (List.mem_cons_self ..)
    refine lab_fine ts (lstep l t) (by rw [lstep_len]; exact hl) (fun u m => ht u (List.mem_cons_of_mem _ m)) (fun u m => hf u (List.mem_cons_of_mem _ m)) fun i j hi hj e => ?_
    rw [at_step (by omega), at_step (by omega)] at e
    have ht' := hf t (List.mem_cons_self ..)
    have g1 : ∀ k, k ≤ n → at_ l k = gt l t.1 → f k = f t.1.toNat := fun k hk e => h k t.1.toNat hk (by omega) e
    have g2 : ∀ k, k ≤ n → at_ l k = gt l t.2 → f k = f t.1.toNat := fun k hk e => (h k t.2.toNat hk (by omega) e).trans ht'.symm
    rcases mrg_eq e with e | ⟨e1, e2⟩
    · exact h i j hi hj e
    · exact (e1.elim (g1 i hi) (g2 i hi)).trans (e2.elim (g1 j hj) (g2 j hj)).symm
/-- labels that bind all that the ties do -/
theorem lab_bind {n : Nat} {p q : Nat} (hp : p ≤ n) (hq : q ≤ n) : ∀ (ts : List (Int × Int)) (l : List Int), l.length = n + 1 → Ties n ts → at_ l p = at_ l q → at_ (ts.foldl lstep l) p = at_ (ts.foldl lstep l) q
  | [], l, _, _, h => h
  | t :: ts, l, hl, ht, h => lab_bind hp hq ts (lstep l t) (by rw [lstep_len]; exact hl) (fun u m => ht u (List.mem_cons_of_mem _ m)) (by rw [at_step (by omega), at_step (by omega), h])
theorem lab_ties {n : Nat} : ∀ (ts : List (Int × Int)) (l : List Int), l.length = n + 1 → Ties n ts → ∀ t, t ∈ ts → at_ (ts.foldl lstep l) t.1.toNat = at_ (ts.foldl lstep l) t.2.toNat
  | u :: ts, l, hl, ht, t, m => by
    have htt : Ties n ts := fun u m => ht u (List.mem_cons_of_mem _ m)
    rcases List.mem_cons.mp m with e | m
    · subst e
      obtain ⟨q1, q2, q3, q4⟩ := ht t (List.mem_cons_self ..)
      refine lab_bind (by omega) (by omega) ts (lstep l t) (by rw [lstep_len]; exact hl) htt ?_
      rw [at_step (by omega), at_step (by omega)]
      show mrg _ _ (gt l t.1) = mrg _ _ (gt l t.2)
      rw [mrg_in (.inl rfl), mrg_in (.inr rfl)]
    · exact lab_ties ts (lstep l u) (by rw [lstep_len]; exact hl) htt t m
theorem lab_zero0 {n : Nat} : ∀ (ts : List (Int × Int)) (l : List Int), l.length = n + 1 → Ties n ts → (∀ i, i ≤ n → 0 ≤ at_ l i) → at_ l 0 = 0 → at_ (ts.foldl lstep l) 0 = 0
  | [], l, _, _, _, h => h
  | t :: ts, l, hl, ht, hp, h => by
    obtain ⟨q1, q2, q3, q4⟩ := ht t (List.mem_cons_self ..)
    have p1 : 0 ≤ gt l t.1 := hp t.1.toNat (by omega)
    have p2 : 0 ≤ gt l t.2 := hp t.2.toNat (by omega)
    refine lab_zero0 ts (lstep l t) (by rw [lstep_len]; exact hl) (fun u m => ht u (List.mem_cons_of_mem _ m)) (fun i hi => ?_) ?_
    · rw [at_step (by omega)]
      have := hp i hi
      unfold mrg
      split
      · split <;> assumption
      · exact this
    · rw [at_step (by omega), h]
      unfold mrg
      split
      · rename_i z
        split <;> omega
      · rfl
/-- all labels are 0 exactly if all that is alike over the ties is alike everywhere -/
def Whole (n : Nat) (ts : List (Int × Int)) : Prop := ∀ f : Nat → Int, (∀ t, t ∈ ts → f t.1.toNat = f t.2.toNat) → ∀ i, i ≤ n → f i = f 0
theorem start_at {n i : Nat} (h : i ≤ n) : at_ (rgL 0 ((n : Int) + 1)) i = i := by
  unfold at_ rgL
  rw [getD_lt _ (by rw [List.length_map, List.length_range]; omega), List.getElem_map, List.getElem_range]
  omega
theorem lab_whole {n : Nat} {ts : List (Int × Int)} (h : Ties n ts) : (∀ x, x ∈ lab n ts → x = 0) ↔ Whole n ts := by
  have l0 : (rgL 0 ((n : Int) + 1)).length = n + 1 := by rw [rgL_len]; omega
  have z0 : at_ (lab n ts) 0 = 0 := lab_zero0 ts _ l0 h (fun i hi => by rw [start_at hi]; omega) (start_at (by omega))
  have ll := lab_len h
  constructor
  · intro hz f hf i hi
    refine lab_fine ts (rgL 0 ((n : Int) + 1)) l0 h hf (fun i j hi hj e => ?_) i 0 hi (by omega) ?_
    · rw [start_at hi, start_at hj] at e
      have : i = j := by omega
      rw [this]
    · show at_ (lab n ts) i = at_ (lab n ts) 0
      rw [z0]
      refine hz _ ?_
      unfold at_
      rw [getD_lt _ (by omega)]
      exact List.getElem_mem _
  · intro w x m
    obtain ⟨i, hi, e⟩ := List.getElem_of_mem m
    have := w (fun i => at_ (lab n ts) i) (fun t m => lab_ties ts _ l0 h t m) i (by omega)
    have e2 : at_ (lab n ts) i = x := by unfold at_; rw [getD_lt _ hi]; exact e
    rw [← e2, this]; exact z0
theorem whole_same {n : Nat} {ts us : List (Int × Int)} (h : ∀ t, t ∈ ts ↔ t ∈ us) : Whole n ts ↔ Whole n us :=
  ⟨fun w f hf => w f fun t m => hf t ((h t).mp m), fun w f hf => w f fun t m => hf t ((h t).mpr m)⟩
theorem all_zero {l : List Int} : (l.map (fun x => decide (x = 0))).all id = true ↔ ∀ x, x ∈ l → x = 0 := by
  rw [List.all_eq_true]
  constructor
  · intro h x m
    have := h (decide (x = 0)) (List.mem_map_of_mem m)
    exact of_decide_eq_true this
  · intro h b m
    obtain ⟨x, m', e⟩ := List.mem_map.mp m
    subst e
    exact decide_eq_true (h x m')
theorem any_zero {l : List Int} : (l.map (fun x => !decide (x = 0))).any id = !((l.map (fun x => decide (x = 0))).all id) := by
  induction l with
  | nil => rfl
  | cons x l ih =>
    rw [List.map_cons, List.any_cons, List.map_cons, List.all_cons, ih]
    cases decide (x = 0) <;> simp
end L2.M
set_option Elab.async false
set_option linter.all false
set_option maxRecDepth 100000
/-! k44: ranges of lengths, put together. -/
namespace K44
open L2.T L2.M

/-- what is closed, and the begin of what is open -/
abbrev Sg : Type := List (Int × Option Int) × Option Int
def sgS (f : Int → Bool) (st : Sg) (c : Int) : Sg := if f c = true then (st.1, some (st.2.getD c)) else match st.2 with
  | none => (st.1, none)
  | some b => (st.1 ++ [(b, some c)], none)
def sgO (st : Sg) (nx : Option Int) : List (Int × Option Int) := st.1 ++ (match st.2 with
  | none => []
  | some b => [(b, nx)])
def sg (f : Int → Bool) (E : List Int) : Sg := E.foldl (sgS f) ([], none)
theorem sg_snoc (f : Int → Bool) (E : List Int) (c : Int) : sg f (E ++ [c]) = sgS f (sg f E) c := by unfold sg; rw [List.foldl_append]; rfl
/-- what is closed was closed at a place that is passed -/
def Cld (E : List Int) (st : Sg) : Prop := ∀ b e, (b, e) ∈ st.1 → ∃ c, e = some c ∧ c ∈ E
theorem cld (f : Int → Bool) (E : List Int) : Cld E (sg f E) := by
  have : ∀ (E zs : List Int) (st : Sg), Cld zs st → Cld (zs ++ E) (E.foldl (sgS f) st) := by
    intro E
    induction E with
    | nil => intro zs st h; rw [List.append_nil]; exact h
    | cons c E ih =>
      intro zs st h
      have h2 : Cld (zs ++ [c]) (sgS f st c) := by
        intro b e m
        unfold sgS at m
        split at m
        · obtain ⟨d, h3, h4⟩ := h b e m; exact ⟨d, h3, List.mem_append_left _ h4⟩
        · cases hs : st.2 with
          | none => rw [hs] at m; obtain ⟨d, h3, h4⟩ := h b e m; exact ⟨d, h3, List.mem_append_left _ h4⟩
          | some b' =>
            rw [hs] at m
            rcases List.mem_append.mp m with m | m
            · obtain ⟨d, h3, h4⟩ := h b e m; exact ⟨d, h3, List.mem_append_left _ h4⟩
            · have := List.mem_singleton.mp m
              cases this
              exact ⟨c, rfl, List.mem_append_right _ (List.mem_singleton.mpr rfl)⟩
      have := ih (zs ++ [c]) (sgS f st c) h2
      rw [List.append_assoc] at this
      exact this
  exact this E [] ([], none) fun _ _ m => by cases m
/-- places where nothing changes may be left out -/
theorem sg_thin (f : Int → Bool) (P : Int → Bool) : ∀ (E : List Int) (p : Int) (st : Sg), st.2.isSome = f p → (∀ zs a b r, p :: E = zs ++ a :: b :: r → P b = false → f b = f a) → E.foldl (sgS f) st = (E.filter P).foldl (sgS f) st
  | [], _, _, _, _ => rfl
  | e :: E, p, st, hs, h => by
    have hs' : (sgS f st e).2.isSome = f e := by
      unfold sgS
      by_cases he : f e = true
      · rw [if_pos he, he]; rfl
      · rw [if_neg he]
        have : f e = false := by simpa using he
        rw [this]
        cases st.2 <;> rfl
    have ih := sg_thin f P E e (sgS f st e) hs' fun zs a b r q => h (p :: zs) a b r (by rw [q]; rfl)
    rw [List.foldl_cons, ih]
    cases hP : P e with
    | true => rw [List.filter_cons_of_pos hP]; rfl
    | false =>
      rw [List.filter_cons_of_neg (by rw [hP]; decide)]
      have hf : f e = f p := h [] p e E rfl hP
      have : sgS f st e = st := by
        obtain ⟨cl, op⟩ := st
        unfold sgS
        cases op with
        | none =>
          have : f e = false := by rw [hf, ← hs]; rfl
          rw [if_neg (by rw [this]; decide)]
        | some b =>
          have : f e = true := by rw [hf, ← hs]; rfl
          rw [if_pos this]; rfl
      rw [this]
/-- ascending lists of the same members are the same -/
theorem asc_ext : ∀ (a b : List Int), a.Pairwise (· < ·) → b.Pairwise (· < ·) → (∀ x, x ∈ a ↔ x ∈ b) → a = b
  | [], [], _, _, _ => rfl
  | [], y :: b, _, _, h => by have := (h y).mpr (List.mem_cons_self ..); cases this
  | x :: a, [], _, _, h => by have := (h x).mp (List.mem_cons_self ..); cases this
  | x :: a, y :: b, ha, hb, h => by
    have ha' := List.pairwise_cons.mp ha
    have hb' := List.pairwise_cons.mp hb
    have e : x = y := by
      rcases List.mem_cons.mp ((h x).mp (List.mem_cons_self ..)) with e | m
      · exact e
      · rcases List.mem_cons.mp ((h y).mpr (List.mem_cons_self ..)) with e | m2
        · exact e.symm
        · have := ha'.1 y m2; have := hb'.1 x m; omega
    subst e
    rw [asc_ext a b ha'.2 hb'.2 fun z => ?_]
    constructor
    · intro m
      rcases List.mem_cons.mp ((h z).mp (List.mem_cons_of_mem _ m)) with e | m2
      · have := ha'.1 z m; omega
      · exact m2
    · intro m
      rcases List.mem_cons.mp ((h z).mpr (List.mem_cons_of_mem _ m)) with e | m2
      · have := hb'.1 z m; omega
      · exact m2
/-- fewer places, the same ranges -/
theorem sg_fewer {f : Int → Bool} {E C : List Int} (hE : (0 :: E).Pairwise (· < ·)) (hC : (0 :: C).Pairwise (· < ·)) (hs : ∀ c, c ∈ C → c ∈ E) (h : ∀ p e, p ∈ 0 :: E → e ∈ E → p < e → (∀ x, x ∈ C → ¬ (p < x ∧ x ≤ e)) → f e = f p) : sg f (0 :: E) = sg f (0 :: C) := by
  unfold sg
  rw [List.foldl_cons, List.foldl_cons]
  have hE' := List.pairwise_cons.mp hE
  have hC' := List.pairwise_cons.mp hC
  have e : E.filter (fun e => decide (e ∈ C)) = C := by
    refine asc_ext _ _ (hE'.2.sublist List.filter_sublist) hC'.2 fun x => ?_
    rw [List.mem_filter, decide_eq_true_eq]
    exact ⟨fun h => h.2, fun h => ⟨hs x h, h⟩⟩
  rw [← e]
  refine sg_thin f _ E 0 _ ?_ fun zs a b r q hb => ?_
  · unfold sgS
    by_cases he : f 0 = true
    · rw [if_pos he, he]; rfl
    · rw [if_neg he]
      have : f 0 = false := by simpa using he
      rw [this]; rfl
  · have hb' : b ∉ C := of_decide_eq_false hb
    have pw := hE
    rw [q] at pw
    have pw2 := (List.pairwise_append.mp pw).2.1
    have pa := List.pairwise_cons.mp pw2
    have pb := List.pairwise_cons.mp pa.2
    have pz := (List.pairwise_append.mp pw).2.2
    have ma : a ∈ 0 :: E := by rw [q]; exact List.mem_append_right _ (List.mem_cons_self ..)
    have mb0 : b ∈ 0 :: E := by rw [q]; exact List.mem_append_right _ (List.mem_cons_of_mem _ (List.mem_cons_self ..))
    have lt : a < b := pa.1 b (List.mem_cons_self ..)
    have mb : b ∈ E := by
      rcases List.mem_cons.mp mb0 with e0 | m
      · exfalso
        rcases List.mem_cons.mp ma with e1 | m1
        · omega
        · have := hE'.1 a m1; omega
      · exact m
    refine h a b ma mb lt fun x mx ⟨l1, l2⟩ => ?_
    have mxE : x ∈ 0 :: E := List.mem_cons_of_mem _ (hs x mx)
    rw [q] at mxE
    rcases List.mem_append.mp mxE with m | m
    · have := pz x m a (List.mem_cons_self ..); omega
    · rcases List.mem_cons.mp m with m | m
      · omega
      · rcases List.mem_cons.mp m with m | m
        · subst m; exact hb' mx
        · have := pb.1 x m; omega
end K44
set_option Elab.async false
set_option linter.all false
set_option maxRecDepth 100000
/-! k44: the program's ratios are whole numbers of quarters. -/
namespace K44
open L2.T L2.M

structure Pm where
  s : Int
  D : Int
  T : Int
  xs : List Int
  s0 : 0 < s
  s1 : s ≤ 1000
  D0 : 0 < D
  D1 : D ≤ 12
  T0 : 0 ≤ T
  T1 : T ≤ 100
  n0 : 1 ≤ xs.length
  n1 : xs.length ≤ 8
  asc : xs.Pairwise (· < ·)
  bd : ∀ x, x ∈ xs → x.natAbs ≤ 100000
  m4 : ∀ x, x ∈ xs → x % 4 = 0
  t4 : T % 4 = 0
def Pm.q (p : Pm) (z : Int) : Int × Int := nf (z * p.s) p.D
/-- not great -/
def Sml (z : Int) : Prop := z.natAbs ≤ 10 ^ 8
section
variable (p : Pm)
theorem q_bd {z : Int} (h : Sml z) : (z * p.s).natAbs ≤ 10 ^ 25 := by
  have := p.s0; have := p.s1
  rw [Int.natAbs_mul]
  exact Nat.le_trans (Nat.mul_le_mul h (show p.s.natAbs ≤ 1000 by omega)) (by decide)
theorem D_bd : p.D.natAbs ≤ 10 ^ 25 := by have := p.D0; have := p.D1; have : p.D.natAbs ≤ 12 := by omega
                                          exact Nat.le_trans this (by decide)
theorem q_minus {z w : Int} (h1 : Sml z) (h2 : Sml w) : m_minus (p.q z) (p.q w) = some (p.q (z - w)) := by
  have e := minusG_eq p.D0 p.D0 (q_bd p h1) (D_bd p) (q_bd p h2) (D_bd p)
  refine (show m_minus (p.q z) (p.q w) = minusG (p.q z) (p.q w) from rfl).trans (e.trans (congrArg some ?_))
  refine nf_of (Int.mul_pos p.D0 p.D0) p.D0 ?_
  rw [← Int.sub_mul, ← Int.sub_mul]
  simp only [Int.mul_assoc, Int.mul_comm, Int.mul_left_comm]
theorem q_plus {z w : Int} (h1 : Sml z) (h2 : Sml w) : m_plus (p.q z) (p.q w) = some (p.q (z + w)) := by
  have e := plusG_eq p.D0 p.D0 (q_bd p h1) (D_bd p) (q_bd p h2) (D_bd p)
  refine (show m_plus (p.q z) (p.q w) = plusG (p.q z) (p.q w) from rfl).trans (e.trans (congrArg some ?_))
  refine nf_of (Int.mul_pos p.D0 p.D0) p.D0 ?_
  rw [← Int.add_mul, ← Int.add_mul]
  simp only [Int.mul_assoc, Int.mul_comm, Int.mul_left_comm]
theorem q_two {z : Int} (h1 : Sml z) : m_times ((2 : Int), (1 : Int)) (p.q z) = some (p.q (2 * z)) := by
  have e1 : ((2 : Int), (1 : Int)) = nf 2 1 := (nf_self (by decide) (by decide)).symm
  have e := timesG_eq (z := 2) (d := 1) (by decide) p.D0 (by decide) (by decide) (q_bd p h1) (D_bd p)
  rw [e1]
  refine (show m_times (nf 2 1) (p.q z) = timesG (nf 2 1) (p.q z) from rfl).trans (e.trans (congrArg some ?_))
  refine nf_of (by have := p.D0; omega) p.D0 ?_
  rw [Int.one_mul]
  simp only [Int.mul_assoc]
theorem q_cmp {z w : Int} (h1 : Sml z) (h2 : Sml w) : m_compare (p.q z) (p.q w) = some (if z < w then -1 else if z > w then 1 else 0) := by
  have e := cmpG_eq p.D0 p.D0 (q_bd p h1) (D_bd p) (q_bd p h2) (D_bd p)
  refine (show m_compare (p.q z) (p.q w) = cmpG (p.q z) (p.q w) from rfl).trans (e.trans (congrArg some ?_))
  have sD := Int.mul_pos p.s0 p.D0
  have a : z * p.s * p.D < w * p.s * p.D ↔ z < w := by
    rw [Int.mul_assoc, Int.mul_assoc]
    exact ⟨fun h => Int.lt_of_mul_lt_mul_right h (Int.le_of_lt sD), fun h => Int.mul_lt_mul_of_pos_right h sD⟩
  have b : z * p.s * p.D > w * p.s * p.D ↔ z > w := by
    rw [Int.mul_assoc, Int.mul_assoc]
    exact ⟨fun h => Int.lt_of_mul_lt_mul_right h (Int.le_of_lt sD), fun h => Int.mul_lt_mul_of_pos_right h sD⟩
  simp only [a, b]
theorem q_inj {z w : Int} : p.q z = p.q w ↔ z = w := by
  unfold Pm.q
  rw [nf_eq p.D0 p.D0]
  have sD := Int.mul_pos p.s0 p.D0
  rw [Int.mul_assoc, Int.mul_assoc]
  exact ⟨fun h => Int.eq_of_mul_eq_mul_right (by omega) h, fun h => by rw [h]⟩
theorem q_zero : p.q 0 = ((0 : Int), (1 : Int)) := by
  unfold Pm.q
  rw [Int.zero_mul]
  exact (nf_of (by decide) p.D0 (by simp)).symm.trans (nf_self (by decide) (by decide))
/-! ### spots -/
def Pm.X (a : Nat) : Int := p.xs.getD a 0
abbrev Pm.n : Nat := p.xs.length
theorem X_mem {a : Nat} (h : a < p.n) : p.X a ∈ p.xs := by
  unfold Pm.X
  rw [getD_lt _ h]
  exact List.getElem_mem _
theorem X_sm {a : Nat} : (p.X a).natAbs ≤ 100000 := by
  by_cases h : a < p.n
  · exact p.bd _ (X_mem p h)
  · unfold Pm.X
    rw [List.getD_eq_getElem?_getD, List.getElem?_eq_none (Nat.le_of_not_lt h)]
    decide
theorem X_m4 {a : Nat} : p.X a % 4 = 0 := by
  by_cases h : a < p.n
  · exact p.m4 _ (X_mem p h)
  · unfold Pm.X
    rw [List.getD_eq_getElem?_getD, List.getElem?_eq_none (Nat.le_of_not_lt h)]
    decide
theorem X_lt {a b : Nat} (h : a < b) (hb : b < p.n) : p.X a < p.X b := by
  unfold Pm.X
  rw [getD_lt _ hb, getD_lt _ (Nat.lt_trans h hb)]
  exact List.pairwise_iff_getElem.mp p.asc a b _ _ h
theorem X_of {x : Int} (h : x ∈ p.xs) : ∃ a, a < p.n ∧ p.X a = x := by
  obtain ⟨a, ha, e⟩ := List.getElem_of_mem h
  exact ⟨a, ha, by unfold Pm.X; rw [getD_lt _ ha]; exact e⟩
def Pm.cart : TyCart := (p.q p.T, (p.xs.map p.q, ()))
theorem at_axle {a : Nat} (h : a < p.n) : atG (p.xs.map p.q) (a : Int) = some (p.q (p.X a)) := by
  rw [atG_pos (by rw [List.length_map]; exact h), List.getElem_map]
  unfold Pm.X
  rw [getD_lt _ h]
/-! ### the lengths of a stop -/
/-- both sides are wide enough -/
def Pm.wide (a b : Nat) : Bool := (decide (0 < a) && decide (p.X a - p.X (a - 1) ≤ 2 * p.T)) || (decide (b < p.n) && decide (p.X b - p.X (b - 1) ≤ 2 * p.T))
def Pm.fst (a b : Nat) : Int := p.X (b - 1) - p.X a + 2 * p.T
def Pm.lst (a b : Nat) : Option Int := if a = 0 ∨ b = p.n then none else some (p.X b - p.X (a - 1) - 2 * p.T)
def Pm.ends (a b : Nat) : Option (Int × Option Int) := if p.wide a b = true then none else some (p.fst a b, p.lst a b)
def Pm.qe (e : Int × Option Int) : (Int × Int) × Option (Int × Int) := (p.q e.1, e.2.map p.q)
theorem lengths_eq {a b : Nat} (h : a < b) (hb : b ≤ p.n) : m_lengths_of_stop p.cart (a : Int) (b : Int) = some ((p.ends a b).map p.qe) := by
  have hT0 := p.T0
  have hT1 := p.T1
  have sT : Sml p.T := by show _ ≤ 100000000; omega
  have s2T : Sml (2 * p.T) := by show _ ≤ 100000000; omega
  have sX : ∀ a, Sml (p.X a) := fun a => Nat.le_trans (X_sm p) (by decide)
  have bX := fun a => X_sm p (a := a)
  have sM : ∀ a b, Sml (p.X a - p.X b) := fun a b => by
    have := bX a; have := bX b; show _ ≤ 100000000; omega
  have e_am : ∀ {a : Nat}, 0 < a → ((a : Int) - 1) = ((a - 1 : Nat) : Int) := fun h => by omega
  have ln : (p.xs.map p.q).length = p.n := List.length_map _
  unfold m_lengths_of_stop
  show (m_times _ (p.q p.T)).bind _ = _
  rw [q_two p sT, bd_s]
  show bIf (bAnd _ (b2 ((b2 ((b2 (atG (p.xs.map p.q) _) (b2 (atG (p.xs.map p.q) _) _ _) _).bind _) _ _).bind _) _ _)) _ (bIf (bAnd (some (decide ((b : Int) < ((p.xs.map p.q).length : Int)))) (b2 ((b2 ((b2 (atG (p.xs.map p.q) _) (b2 (atG (p.xs.map p.q) _) _ _) _).bind _) _ _).bind _) _ _)) _ _) = _
  -- the left side
  have left : bAnd (some (decide ((a : Int) > 0))) (b2 ((b2 ((b2 (atG (p.xs.map p.q) (a : Int)) (b2 (atG (p.xs.map p.q) ((a : Int) - 1)) (some ()) (fun x y => some (x, y))) (fun x y => some (x, y))).bind (fun t => m_minus t.1 t.2.1)) (b2 (some (p.q (2 * p.T))) (some ()) (fun x y => some (x, y))) (fun x y => some (x, y))).bind (fun t => m_compare t.1 t.2.1)) (some (0 : Int)) (fun x y => some (decide (x ≤ y)))) = some (decide (0 < a) && decide (p.X a - p.X (a - 1) ≤ 2 * p.T)) := by
    by_cases h0 : 0 < a
    · rw [decide_eq_true (show (a : Int) > 0 by omega), bAnd_s, if_pos rfl, e_am h0, at_axle p (by omega), at_axle p (by omega)]
      show b2 ((b2 (m_minus (p.q (p.X a)) (p.q (p.X (a - 1)))) _ _).bind _) _ _ = _
      rw [q_minus p (sX _) (sX _)]
      show b2 (m_compare (p.q _) (p.q _)) _ _ = _
      rw [q_cmp p (sM _ _) s2T]
      show some _ = some _
      congr 1
      rw [decide_eq_true h0, Bool.true_and]
      by_cases h1 : p.X a - p.X (a - 1) < 2 * p.T
      · rw [if_pos h1, decide_eq_true (by decide), decide_eq_true (by omega)]
      · rw [if_neg h1]
        by_cases h2 : p.X a - p.X (a - 1) > 2 * p.T
        · rw [if_pos h2, decide_eq_false (by decide), decide_eq_false (by omega)]
        · rw [if_neg h2, decide_eq_true (by decide), decide_eq_true (by omega)]
    · rw [decide_eq_false (show ¬ (a : Int) > 0 by omega), bAnd_s, if_neg (by decide), decide_eq_false h0, Bool.false_and]
  have right : bAnd (some (decide ((b : Int) < ((p.xs.map p.q).length : Int)))) (b2 ((b2 ((b2 (atG (p.xs.map p.q) (b : Int)) (b2 (atG (p.xs.map p.q) ((b : Int) - 1)) (some ()) (fun x y => some (x, y))) (fun x y => some (x, y))).bind (fun t => m_minus t.1 t.2.1)) (b2 (some (p.q (2 * p.T))) (some ()) (fun x y => some (x, y))) (fun x y => some (x, y))).bind (fun t => m_compare t.1 t.2.1)) (some (0 : Int)) (fun x y => some (decide (x ≤ y)))) = some (decide (b < p.n) && decide (p.X b - p.X (b - 1) ≤ 2 * p.T)) := by
    rw [ln]
    by_cases h0 : b < p.n
    · rw [decide_eq_true (show (b : Int) < (p.n : Int) by omega), bAnd_s, if_pos rfl, e_am (by omega), at_axle p h0, at_axle p (by omega)]
      show b2 ((b2 (m_minus (p.q (p.X b)) (p.q (p.X (b - 1)))) _ _).bind _) _ _ = _
      rw [q_minus p (sX _) (sX _)]
      show b2 (m_compare (p.q _) (p.q _)) _ _ = _
      rw [q_cmp p (sM _ _) s2T]
      show some _ = some _
      congr 1
      rw [decide_eq_true h0, Bool.true_and]
      by_cases h1 : p.X b - p.X (b - 1) < 2 * p.T
      · rw [if_pos h1, decide_eq_true (by decide), decide_eq_true (by omega)]
      · rw [if_neg h1]
        by_cases h2 : p.X b - p.X (b - 1) > 2 * p.T
        · rw [if_pos h2, decide_eq_false (by decide), decide_eq_false (by omega)]
        · rw [if_neg h2, decide_eq_true (by decide), decide_eq_true (by omega)]
    · rw [decide_eq_false (show ¬ (b : Int) < (p.n : Int) by omega), bAnd_s, if_neg (by decide), decide_eq_false h0, Bool.false_and]
  rw [left, right, bIf_s, bIf_s]
  unfold Pm.ends Pm.wide
  cases hl : (decide (0 < a) && decide (p.X a - p.X (a - 1) ≤ 2 * p.T)) with
  | true => rw [if_pos rfl, Bool.true_or, if_pos rfl]; rfl
  | false =>
    rw [if_neg (by decide), Bool.false_or]
    cases hr : (decide (b < p.n) && decide (p.X b - p.X (b - 1) ≤ 2 * p.T)) with
    | true => rw [if_pos rfl, if_pos rfl]; rfl
    | false =>
      rw [if_neg (by decide), if_neg (by decide)]
      have e1 : p.cart.2.1 = p.xs.map p.q := rfl
      rw [e1, e_am (show 0 < b by omega), at_axle p (show b - 1 < p.n by omega), at_axle p (show a < p.n by omega)]
      show ((b2 (m_minus (p.q (p.X (b - 1))) (p.q (p.X a))) _ _).bind _).bind _ = _
      rw [q_minus p (sX _) (sX _)]
      show (m_plus (p.q _) (p.q _)).bind _ = _
      rw [q_plus p (sM _ _) s2T, bd_s, bOr_s, ln]
      unfold Pm.lst
      by_cases h0 : a = 0
      · rw [decide_eq_true (by omega), if_pos rfl, bIf_s, if_pos rfl, if_pos (.inl h0)]; rfl
      · rw [decide_eq_false (by omega), if_neg (by decide), bIf_s]
        by_cases h1 : b = p.n
        · rw [decide_eq_true (by omega), if_pos rfl, if_pos (.inr h1)]; rfl
        · rw [decide_eq_false (by omega), if_neg (by decide), if_neg (fun z => z.elim h0 h1), e_am (show 0 < a by omega), at_axle p (show b < p.n by omega), at_axle p (show a - 1 < p.n by omega)]
          show ((b2 _ (b2 (((b2 (m_minus (p.q (p.X b)) (p.q (p.X (a - 1)))) _ _).bind _).map some) _ _) _).map _).map _ = _
          rw [q_minus p (sX _) (sX _)]
          show ((b2 _ (b2 ((m_minus (p.q _) (p.q _)).map some) _ _) _).map _).map _ = _
          rw [q_minus p (sM _ _) s2T]
          rfl
end
end K44
set_option Elab.async false
set_option linter.all false
set_option maxRecDepth 100000
/-! k44: the ranges of all stops, the critical lengths. -/
namespace K44
open L2.T L2.M
abbrev Row : Type := Int × Int × Int × Option Int
section
variable (p : Pm)
def Pm.qr (r : Row) : Int × Int × (Int × Int) × Option (Int × Int) := (r.1, r.2.1, p.q r.2.2.1, r.2.2.2.map p.q)
def Pm.row (a b : Int) : Option Row := (p.ends a.toNat b.toNat).map fun e => (a, b, e.1, e.2)
theorem ranges_in {a : Int} (ha : 0 ≤ a) : ∀ (bs : List Int) (s : List Row), (∀ b, b ∈ bs → a < b ∧ b ≤ p.n) → s.length + bs.length < 16777216 → forM (m_ranges_of_stops_b1 p.cart a) bs (s.map p.qr) = some ((s ++ bs.filterMap (p.row a)).map p.qr)
  | [], s, _, _ => by rw [List.filterMap_nil, List.append_nil]; rfl
  | b :: bs, s, h, hl => by
    obtain ⟨h1, h2⟩ := h b (List.mem_cons_self ..)
    rw [List.length_cons] at hl
    have ea : a = ((a.toNat : Nat) : Int) := by omega
    have eb : b = ((b.toNat : Nat) : Int) := by omega
    have e := lengths_eq p (a := a.toNat) (b := b.toNat) (by omega) (by omega)
    rw [← ea, ← eb] at e
    rw [forM_cons]
    have step : m_ranges_of_stops_b1 p.cart a (s.map p.qr) b = some ((s ++ (p.row a b).toList).map p.qr) := by
      unfold m_ranges_of_stops_b1
      rw [e, bd_s]
      unfold Pm.row
      cases p.ends a.toNat b.toNat with
      | none => rw [bIf_s]; show some _ = some _; rw [show ((none : Option (Int × Option Int)).map fun e => ((a, b, e.1, e.2) : Row)).toList = [] from rfl, List.append_nil]
      | some z =>
        rw [bIf_s]
        show (appG (s.map p.qr) (a, b, p.q z.1, z.2.map p.q)).bind _ = _
        rw [appG_eq (by rw [List.length_map]; omega), bd_s]
        rw [List.map_append]
        rfl
    rw [step, bd_s, ranges_in ha bs _ (fun b m => h b (List.mem_cons_of_mem _ m)) (by
      rw [List.length_append]
      have : (p.row a b).toList.length ≤ 1 := by cases p.row a b <;> simp
      omega)]
    congr 2
    rw [List.append_assoc, List.filterMap_cons]
    cases p.row a b <;> rfl
def Pm.rows1 (a : Int) : List Row := (rgL (a + 1) ((p.n : Int) + 1)).filterMap (p.row a)
def Pm.rows : List Row := (rgL 0 (p.n : Int)).flatMap p.rows1
theorem rows1_len (a : Int) (ha : 0 ≤ a) : (p.rows1 a).length ≤ 8 := by
  have hn : p.n ≤ 8 := p.n1
  refine Nat.le_trans (List.length_filterMap_le ..) ?_
  rw [rgL_len]
  omega
theorem ranges_out : ∀ (as : List Int) (s : List Row), (∀ a, a ∈ as → 0 ≤ a ∧ a < p.n) → s.length + 8 * as.length < 1000 → forM (m_ranges_of_stops_b2 p.cart) as (s.map p.qr) = some ((s ++ as.flatMap p.rows1).map p.qr)
  | [], s, _, _ => by rw [List.flatMap_nil, List.append_nil]; rfl
  | a :: as, s, h, hl => by
    have hn : p.n ≤ 8 := p.n1
    obtain ⟨h1, h2⟩ := h a (List.mem_cons_self ..)
    rw [List.length_cons] at hl
    rw [forM_cons]
    have ln : p.cart.2.1.length = p.n := List.length_map _
    have r1 := rows1_len p a h1
    have step : m_ranges_of_stops_b2 p.cart (s.map p.qr) a = some ((s ++ p.rows1 a).map p.qr) := by
      unfold m_ranges_of_stops_b2
      rw [ln, b2_s, rgG_eq (by omega) (by omega) (by omega) (by omega), bd_s, ranges_in p h1 _ s (fun b m => by have := mem_rgL.mp m; omega) (by rw [rgL_len]; omega)]
      rfl
    rw [step, bd_s, ranges_out as _ (fun b m => h b (List.mem_cons_of_mem _ m)) (by rw [List.length_append]; omega), List.append_assoc]
    rfl
theorem ranges_eq : m_ranges_of_stops p.cart = some (p.rows.map p.qr) := by
  have hn : p.n ≤ 8 := p.n1
  have ln : p.cart.2.1.length = p.n := List.length_map _
  unfold m_ranges_of_stops
  rw [bd_s, ln, rgG_eq (by omega) (by omega) (by omega) (by omega), bd_s]
  have := ranges_out p (rgL 0 (p.n : Int)) [] (fun a m => by have := mem_rgL.mp m; omega) (by rw [rgL_len]; simp only [List.length_nil]; omega)
  rw [List.map_nil, List.nil_append] at this
  rw [this]
  rfl
theorem rows_len : p.rows.length ≤ 64 := by
  have hn : p.n ≤ 8 := p.n1
  have : ∀ (as : List Int), (∀ a, a ∈ as → 0 ≤ a) → (as.flatMap p.rows1).length ≤ 8 * as.length := by
    intro as
    induction as with
    | nil => intro _; exact Nat.zero_le _
    | cons a as ih =>
      intro h
      rw [List.flatMap_cons, List.length_append, List.length_cons]
      have := rows1_len p a (h a (List.mem_cons_self ..))
      have := ih fun b m => h b (List.mem_cons_of_mem _ m)
      omega
  have := this (rgL 0 (p.n : Int)) fun a m => (mem_rgL.mp m).1
  rw [rgL_len] at this
  show (List.flatMap _ _).length ≤ _
  omega
theorem mem_rows {r : Row} : r ∈ p.rows ↔ ∃ a b : Nat, a < b ∧ b ≤ p.n ∧ p.wide a b = false ∧ r = ((a : Int), (b : Int), p.fst a b, p.lst a b) := by
  unfold Pm.rows Pm.rows1
  rw [List.mem_flatMap]
  constructor
  · rintro ⟨a, ma, m⟩
    obtain ⟨b, mb, e⟩ := List.mem_filterMap.mp m
    have ha := mem_rgL.mp ma
    have hb := mem_rgL.mp mb
    unfold Pm.row Pm.ends at e
    cases w : p.wide a.toNat b.toNat with
    | true => rw [if_pos w] at e; cases e
    | false =>
      rw [if_neg (by rw [w]; decide)] at e
      refine ⟨a.toNat, b.toNat, by omega, by omega, w, ?_⟩
      have e' : r = (a, b, p.fst a.toNat b.toNat, p.lst a.toNat b.toNat) := (Option.some.inj e).symm
      rw [e']
      congr 1
      · omega
      · congr 1; omega
  · rintro ⟨a, b, h1, h2, w, e⟩
    refine ⟨(a : Int), mem_rgL.mpr (by omega), List.mem_filterMap.mpr ⟨(b : Int), mem_rgL.mpr (by omega), ?_⟩⟩
    unfold Pm.row Pm.ends
    rw [Int.toNat_natCast, Int.toNat_natCast, if_neg (by rw [w]; decide), e]
    rfl
/-! ### the critical lengths -/
theorem asc_split {z : Int} : ∀ (c : List Int), c.Pairwise (· < ·) → (c.filter (fun o => decide (o < z))) = c.take (c.filter (fun o => decide (o < z))).length ∧ ∀ x, x ∈ c.drop (c.filter (fun o => decide (o < z))).length → z ≤ x
  | [], _ => ⟨rfl, fun x m => by cases m⟩
  | x :: c, h => by
    obtain ⟨h1, h2⟩ := List.pairwise_cons.mp h
    by_cases hx : x < z
    · rw [show (x :: c).filter (fun o => decide (o < z)) = x :: c.filter (fun o => decide (o < z)) from List.filter_cons_of_pos (p := fun o => decide (o < z)) (decide_eq_true hx)]
      obtain ⟨q1, q2⟩ := asc_split c h2
      rw [List.length_cons, List.take_succ_cons, List.drop_succ_cons]
      exact ⟨congrArg _ q1, q2⟩
    · have : (x :: c).filter (fun o => decide (o < z)) = [] := by
        rw [List.filter_eq_nil_iff]
        intro y m
        rw [decide_eq_true_eq]
        rcases List.mem_cons.mp m with e | m
        · omega
        · have := h1 y m; omega
      rw [this]
      refine ⟨rfl, fun y m => ?_⟩
      rcases List.mem_cons.mp m with e | m
      · omega
      · have := h1 y m; omega
def insZ (c : List Int) (z : Int) : List Int := if 0 < z then (if (c.filter (fun o => decide (o < z))).length = c.length ∨ c[(c.filter (fun o => decide (o < z))).length]? ≠ some z then c.take (c.filter (fun o => decide (o < z))).length ++ [z] ++ c.drop (c.filter (fun o => decide (o < z))).length else c) else c
theorem insZ_ok {c : List Int} {z : Int} (h : c.Pairwise (· < ·)) : (insZ c z).Pairwise (· < ·) ∧ (∀ x, x ∈ insZ c z ↔ x ∈ c ∨ (0 < z ∧ x = z)) ∧ (insZ c z).length ≤ c.length + 1 := by
  unfold insZ
  by_cases hz : 0 < z
  · rw [if_pos hz]
    obtain ⟨q1, q2⟩ := asc_split (z := z) c h
    have lo : ∀ x, x ∈ c.take (c.filter (fun o => decide (o < z))).length → x < z := fun x m => by
      rw [← q1] at m
      exact of_decide_eq_true (List.mem_filter.mp m).2
    generalize (c.filter (fun o => decide (o < z))).length = k at *
    have sp : c.take k ++ c.drop k = c := List.take_append_drop k c
    by_cases hk : k = c.length ∨ c[k]? ≠ some z
    · rw [if_pos hk]
      have hi : ∀ x, x ∈ c.drop k → z < x := fun x m => by
        have le := q2 x m
        have ne : x ≠ z := fun e => by
          subst e
          rcases hk with hk | hk
          · rw [List.drop_eq_nil_of_le (by omega)] at m; cases m
          · apply hk
            obtain ⟨i, hi, e⟩ := List.getElem_of_mem m
            rw [List.getElem_drop] at e
            have hkl : k < c.length := by rw [List.length_drop] at hi; omega
            have hkx : c[k] ∈ c.drop k := by
              rw [List.drop_eq_getElem_cons hkl]; exact List.mem_cons_self ..
            have g := q2 _ hkx
            rw [List.getElem?_eq_getElem hkl]
            congr 1
            by_cases hi0 : i = 0
            · subst hi0; simpa using e
            · have := List.pairwise_iff_getElem.mp h k (k + i) hkl (by rw [List.length_drop] at hi; omega) (by omega)
              omega
        omega
      refine ⟨?_, fun x => ?_, ?_⟩
      · rw [List.append_assoc, List.pairwise_append]
        refine ⟨h.sublist (List.take_sublist ..), List.pairwise_cons.mpr ⟨hi, h.sublist (List.drop_sublist ..)⟩, fun a ma b mb => ?_⟩
        rcases List.mem_cons.mp mb with e | mb
        · rw [e]; exact lo a ma
        · have := lo a ma; have := hi b mb; omega
      · have spm : x ∈ c ↔ x ∈ c.take k ∨ x ∈ c.drop k := by rw [← List.mem_append, sp]
        rw [spm]
        simp only [List.mem_append, List.mem_singleton]
        constructor
        · rintro ((m | m) | m)
          · exact .inl (.inl m)
          · exact .inr ⟨hz, m⟩
          · exact .inl (.inr m)
        · rintro ((m | m) | ⟨_, m⟩)
          · exact .inl (.inl m)
          · exact .inr m
          · exact .inl (.inr m)
      · rw [List.append_assoc, List.length_append, List.length_append, List.length_singleton, List.length_take, List.length_drop]; omega
    · rw [if_neg hk]
      have hk' : c[k]? = some z := by
        by_cases e : c[k]? = some z
        · exact e
        · exact absurd (.inr e) hk
      exact ⟨h, fun x => ⟨.inl, fun m => m.elim id fun ⟨_, e⟩ => by rw [e]; exact List.mem_of_getElem? hk'⟩, by omega⟩
  · rw [if_neg hz]
    exact ⟨h, fun x => ⟨.inl, fun m => m.elim id fun ⟨g, _⟩ => absurd g hz⟩, by omega⟩
end
end K44
set_option Elab.async false
set_option linter.all false
set_option maxRecDepth 100000
/-! k44: the critical lengths. -/
namespace K44
open L2.T L2.M
theorem lcM_mapl {α β γ : Type} (c : β → Option Bool) (f : β → Option γ) (g : α → β) : ∀ xs : List α, lcM c f (xs.map g) = lcM (fun x => c (g x)) (fun x => f (g x)) xs
  | [] => rfl
  | x :: xs => by
    show (c (g x)).bind _ = (c (g x)).bind _
    rw [lcM_mapl c f g xs]
theorem insG_eq {α : Type} {xs : List α} {k : Nat} {y : α} (h : xs.length < 16777216) (hk : k ≤ xs.length) : insG xs (k : Int) y = some (xs.take k ++ [y] ++ xs.drop k) := by
  unfold insG
  rw [if_pos ⟨h, by omega, by omega⟩, Int.toNat_natCast]
section
variable (p : Pm)
theorem crit1 {c : List Int} {z : Int} (hc : ∀ x, x ∈ c → Sml x) (hz : Sml z) (hl : c.length < 16777216) : m_critical_lengths_b1 (c.map p.q) (some (p.q z)) = some ((insZ c z).map p.q) := by
  have s0 : Sml 0 := by show (0 : Int).natAbs ≤ _; decide
  have tv : decide ((if z < 0 then (-1 : Int) else if z > 0 then 1 else 0) > 0) = decide (0 < z) := decide_eq_decide.mpr (by split
                                                                                                                             · omega
                                                                                                                             · split <;> omega)
  unfold m_critical_lengths_b1
  show bIf (bAnd (some true) (b2 (m_compare (p.q z) ((0 : Int), (1 : Int))) (some 0) _)) _ _ = _
  rw [← q_zero p, q_cmp p hz s0, bAnd_s, if_pos rfl, b2_s, tv, bIf_s]
  unfold insZ
  by_cases h0 : 0 < z
  · rw [decide_eq_true h0, if_pos rfl, if_pos h0]
    have e : lcM (fun other_1 => b2 ((b2 (some other_1) (b2 (some (p.q z)) (some ()) (fun x y => some (x, y))) (fun x y => some (x, y))).bind (fun t => m_compare t.1 t.2.1)) (some (0 : Int)) (fun x y => some (decide (x < y)))) (fun other_1 => some other_1) (c.map p.q) = some ((c.filter (fun o => decide (o < z))).map p.q) := by
      rw [lcM_mapl]
      refine lcM_some (c' := fun o => decide (o < z)) (f' := p.q) c fun o m => ⟨?_, fun _ => rfl⟩
      show b2 (m_compare (p.q o) (p.q z)) _ _ = _
      rw [q_cmp p (hc o m) hz, b2_s]
      congr 1
      by_cases h1 : o < z
      · rw [if_pos h1, decide_eq_true h1]; rfl
      · rw [if_neg h1, decide_eq_false h1]
        by_cases h2 : o > z
        · rw [if_pos h2]; rfl
        · rw [if_neg h2]; rfl
    rw [e]
    show (some ((((c.filter (fun o => decide (o < z))).map p.q).length : Nat) : Int)).bind _ = _
    have kl : (c.filter (fun o => decide (o < z))).length ≤ c.length := List.length_filter_le ..
    rw [List.length_map, bd_s]
    generalize (c.filter (fun o => decide (o < z))).length = k at *
    rw [List.length_map, bOr_s, b2_s, insG_eq (by rw [List.length_map]; exact hl) (by rw [List.length_map]; exact kl), atG_get]
    by_cases hk : k = c.length
    · rw [decide_eq_true (show (k : Int) = (c.length : Int) by omega), if_pos rfl, bIf_s, if_pos rfl, if_pos (.inl hk)]
      show some _ = some _
      rw [← List.map_take, ← List.map_drop, List.map_append, List.map_append]; rfl
    · rw [decide_eq_false (show ¬ (k : Int) = (c.length : Int) by omega), if_neg (by decide)]
      have kl2 : k < c.length := by omega
      rw [List.getElem?_map, List.getElem?_eq_getElem kl2]
      show bIf (some (!decide (some (p.q c[k]) = some (p.q z)))) _ _ = _
      rw [bIf_s]
      by_cases hz2 : c[k] = z
      · rw [hz2, decide_eq_true rfl, if_neg (by decide), if_neg (fun h => h.elim hk (fun h => h rfl))]
      · rw [decide_eq_false (fun h => hz2 ((q_inj p).mp (Option.some.inj h))), if_pos (show (!false) = true from rfl), if_pos (.inr (fun h => hz2 (Option.some.inj h)))]
        show some _ = some _
        rw [← List.map_take, ← List.map_drop, List.map_append, List.map_append]; rfl
  · rw [decide_eq_false h0, if_neg (by decide), if_neg h0]
def insR (c : List Int) (r : Row) : List Int := match r.2.2.2 with
  | none => insZ c r.2.2.1
  | some l => insZ (insZ c r.2.2.1) l
theorem crit2 {c : List Int} {r : Row} (ha : c.Pairwise (· < ·)) (hc : ∀ x, x ∈ c → Sml x) (h1 : Sml r.2.2.1) (h2 : ∀ l, r.2.2.2 = some l → Sml l) (hl : c.length + 2 < 16777216) :
    m_critical_lengths_b2 (c.map p.q) (p.qr r) = some ((insR c r).map p.q) ∧ (insR c r).Pairwise (· < ·) ∧ (∀ x, x ∈ insR c r → Sml x) ∧ (∀ x, x ∈ insR c r ↔ x ∈ c ∨ (0 < x ∧ (x = r.2.2.1 ∨ r.2.2.2 = some x))) ∧ (insR c r).length ≤ c.length + 2 := by
  obtain ⟨r1, r2, f, l⟩ := r
  obtain ⟨a1, a2, a3⟩ := insZ_ok (z := f) ha
  have s1 : ∀ x, x ∈ insZ c f → Sml x := fun x m => ((a2 x).mp m).elim (hc x) fun e => by rw [e.2]; exact h1
  have e0 : m_critical_lengths_b2 (c.map p.q) (p.qr (r1, r2, f, l)) = (m_critical_lengths_b1 (c.map p.q) (some (p.q f))).bind fun s => (m_critical_lengths_b1 s (l.map p.q)).bind fun s => some s := by
    unfold m_critical_lengths_b2
    show ((some [some (p.q f), l.map p.q]).bind _).bind _ = _
    rw [bd_s, forM_cons, Option.bind_assoc]
    congr 1; funext s
    rw [forM_cons, Option.bind_assoc]
    rfl
  cases l with
  | none =>
    refine ⟨?_, a1, s1, fun x => ?_, by show (insZ c f).length ≤ _; omega⟩
    · rw [e0, crit1 p hc h1 (by omega), bd_s]; rfl
    · show x ∈ insZ c f ↔ _
      rw [a2]
      constructor
      · rintro (m | ⟨q, e⟩)
        · exact .inl m
        · exact .inr ⟨by omega, .inl e⟩
      · rintro (m | ⟨q, e | e⟩)
        · exact .inl m
        · exact .inr ⟨by have e' : x = f := e; omega, e⟩
        · cases e
  | some l =>
    have hl2 := h2 l rfl
    obtain ⟨b1, b2', b3⟩ := insZ_ok (z := l) a1
    have s2 : ∀ x, x ∈ insZ (insZ c f) l → Sml x := fun x m => ((b2' x).mp m).elim (s1 x) fun e => by rw [e.2]; exact hl2
    refine ⟨?_, b1, s2, fun x => ?_, by show (insZ (insZ c f) l).length ≤ _; omega⟩
    · rw [e0, crit1 p hc h1 (by omega), bd_s]
      show (m_critical_lengths_b1 _ (some (p.q l))).bind _ = _
      rw [crit1 p s1 hl2 (by omega)]; rfl
    · show x ∈ insZ (insZ c f) l ↔ _
      rw [b2', a2]
      constructor
      · rintro ((m | ⟨q, e⟩) | ⟨q, e⟩)
        · exact .inl m
        · exact .inr ⟨by omega, .inl e⟩
        · exact .inr ⟨by omega, .inr (by rw [e])⟩
      · rintro (m | ⟨q, e | e⟩)
        · exact .inl (.inl m)
        · exact .inl (.inr ⟨by have e' : x = f := e; omega, e⟩)
        · cases e; exact .inr ⟨q, rfl⟩
theorem crit3 : ∀ (rs : List Row) (c : List Int), c.Pairwise (· < ·) → (∀ x, x ∈ c → Sml x) → (∀ r, r ∈ rs → Sml r.2.2.1 ∧ ∀ l, r.2.2.2 = some l → Sml l) → c.length + 2 * rs.length < 16777216 →
    ∃ c' : List Int, forM m_critical_lengths_b2 (rs.map p.qr) (c.map p.q) = some (c'.map p.q) ∧ c'.Pairwise (· < ·) ∧ (∀ x, x ∈ c' → Sml x) ∧ (∀ x, x ∈ c' ↔ x ∈ c ∨ (0 < x ∧ ∃ r, r ∈ rs ∧ (x = r.2.2.1 ∨ r.2.2.2 = some x))) ∧ c'.length ≤ c.length + 2 * rs.length
  | [], c, ha, hc, _, _ => ⟨c, rfl, ha, hc, fun x => ⟨.inl, fun m => m.elim id fun ⟨_, r, m, _⟩ => by cases m⟩, by omega⟩
  | r :: rs, c, ha, hc, hr, hl => by
    rw [List.length_cons] at hl
    obtain ⟨h1, h2⟩ := hr r (List.mem_cons_self ..)
    obtain ⟨q1, q2, q3, q4, q5⟩ := crit2 p ha hc h1 h2 (by omega)
    obtain ⟨c', w1, w2, w3, w4, w5⟩ := crit3 rs (insR c r) q2 q3 (fun r m => hr r (List.mem_cons_of_mem _ m)) (by omega)
    refine ⟨c', by rw [List.map_cons, forM_cons, q1, bd_s, w1], w2, w3, fun x => ?_, by rw [List.length_cons]; omega⟩
    rw [w4, q4]
    constructor
    · rintro ((m | ⟨g, e⟩) | ⟨g, r', m, e⟩)
      · exact .inl m
      · exact .inr ⟨g, r, List.mem_cons_self .., e⟩
      · exact .inr ⟨g, r', List.mem_cons_of_mem _ m, e⟩
    · rintro (m | ⟨g, r', m, e⟩)
      · exact .inl (.inl m)
      · rcases List.mem_cons.mp m with m | m
        · subst m; exact .inl (.inr ⟨g, e⟩)
        · exact .inr ⟨g, r', m, e⟩
/-- the lengths where a stop begins or ends -/
def Pm.Crit (x : Int) : Prop := 0 < x ∧ ∃ a b : Nat, a < b ∧ b ≤ p.n ∧ p.wide a b = false ∧ (x = p.fst a b ∨ p.lst a b = some x)
theorem fst_sm (a b : Nat) : (p.fst a b).natAbs ≤ 300000 := by
  have := X_sm p (a := b - 1); have := X_sm p (a := a); have := p.T0; have := p.T1
  unfold Pm.fst; omega
theorem lst_sm (a b : Nat) {l : Int} (h : p.lst a b = some l) : l.natAbs ≤ 300000 := by
  have := X_sm p (a := b); have := X_sm p (a := a - 1); have := p.T0; have := p.T1
  unfold Pm.lst at h
  split at h
  · cases h
  · cases h; omega
theorem rows_sm (r : Row) (m : r ∈ p.rows) : Sml r.2.2.1 ∧ ∀ l, r.2.2.2 = some l → Sml l := by
  obtain ⟨a, b, _, _, _, e⟩ := (mem_rows p).mp m
  rw [e]
  exact ⟨Nat.le_trans (fst_sm p a b) (by decide), fun l h => Nat.le_trans (lst_sm p a b h) (by decide)⟩
theorem crit_eq : ∃ C : List Int, m_critical_lengths (p.rows.map p.qr) = some ((0 :: C).map p.q) ∧ (0 :: C).Pairwise (· < ·) ∧ (∀ x, x ∈ C ↔ p.Crit x) ∧ (0 :: C).length ≤ 200 := by
  have rl := rows_len p
  obtain ⟨c', w1, w2, w3, w4, w5⟩ := crit3 p p.rows [0] (List.pairwise_singleton ..) (fun x m => by rw [List.mem_singleton] at m; subst m; show (0 : Int).natAbs ≤ _; decide) (rows_sm p) (by rw [List.length_singleton]; omega)
  have hm : ∀ x, x ∈ c' ↔ x = 0 ∨ p.Crit x := fun x => by
    rw [w4, List.mem_singleton]
    unfold Pm.Crit
    constructor
    · rintro (m | ⟨g, r, m, e⟩)
      · exact .inl m
      · obtain ⟨a, b, h1, h2, h3, e2⟩ := (mem_rows p).mp m
        rw [e2] at e
        exact .inr ⟨g, a, b, h1, h2, h3, e⟩
    · rintro (m | ⟨g, a, b, h1, h2, h3, e⟩)
      · exact .inl m
      · exact .inr ⟨g, _, (mem_rows p).mpr ⟨a, b, h1, h2, h3, rfl⟩, e⟩
  match c', w1, w2, hm, w5 with
  | [], _, _, hm, _ => have := (hm 0).mpr (.inl rfl); cases this
  | x :: C, w1, w2, hm, w5 =>
    have hp := List.pairwise_cons.mp w2
    have x0 : x = 0 := by
      rcases List.mem_cons.mp ((hm 0).mpr (.inl rfl)) with e | m
      · exact e.symm
      · have := hp.1 0 m
        rcases (hm x).mp (List.mem_cons_self ..) with e | e
        · exact e
        · have := e.1; omega
    subst x0
    refine ⟨C, ?_, w2, fun y => ?_, by rw [List.length_singleton] at w5; omega⟩
    · unfold m_critical_lengths
      rw [bd_s, bd_s]
      have : [((0 : Int), (1 : Int))] = [0].map p.q := by show _ = [p.q 0]; rw [q_zero]
      rw [this, w1]
      rfl
    · constructor
      · intro m
        rcases (hm y).mp (List.mem_cons_of_mem _ m) with e | e
        · have := hp.1 y m; omega
        · exact e
      · intro h
        rcases List.mem_cons.mp ((hm y).mpr (.inr h)) with e | m
        · have := h.1; omega
        · exact m
end
end K44
set_option Elab.async false
set_option linter.all false
set_option maxRecDepth 100000
/-! k44: the sure lengths. -/
namespace K44
open L2.T L2.M
section
variable (p : Pm)
def inn (L : Int) (r : Row) : Bool := decide (r.2.2.1 ≤ L) && (match r.2.2.2 with
  | none => true
  | some l => decide (L < l))
def Pm.tiesAt (L : Int) : List (Int × Int) := (p.rows.filter (inn L)).map fun r => (r.1, r.2.1)
def allZ (l : List Int) : Bool := (l.map (fun x => decide (x = 0))).all id
def Pm.f (L : Int) : Bool := allZ (lab p.n (p.tiesAt L))
theorem c_le {z w : Int} : decide ((if z < w then (-1 : Int) else if z > w then 1 else 0) ≤ 0) = decide (z ≤ w) := decide_eq_decide.mpr (by
  split
  · omega
  · split <;> omega)
theorem c_lt {z w : Int} : decide ((if z < w then (-1 : Int) else if z > w then 1 else 0) < 0) = decide (z < w) := decide_eq_decide.mpr (by
  split
  · omega
  · split <;> omega)
theorem within_eq {L : Int} {r : Row} (hL : Sml L) (h1 : Sml r.2.2.1) (h2 : ∀ l, r.2.2.2 = some l → Sml l) : m_is_length_within (p.q L) (p.q r.2.2.1) (r.2.2.2.map p.q) = some (inn L r) := by
  unfold m_is_length_within
  rw [q_cmp p h1 hL, b2_s, c_le, bAnd_s]
  unfold inn
  by_cases h : r.2.2.1 ≤ L
  · rw [decide_eq_true h, if_pos rfl, Bool.true_and]
    cases hl : r.2.2.2 with
    | none => rfl
    | some l =>
      show b2 (m_compare (p.q L) (p.q l)) _ _ = _
      rw [q_cmp p hL (h2 l hl), b2_s, c_lt]
  · rw [decide_eq_false h, if_neg (by decide), Bool.false_and]
theorem ties_ok (L : Int) : Ties p.n (p.tiesAt L) := fun t m => by
  obtain ⟨r, mr, e⟩ := List.mem_map.mp m
  obtain ⟨a, b, h1, h2, _, e2⟩ := (mem_rows p).mp (List.mem_filter.mp mr).1
  rw [e2] at e
  have e1 : t = ((a : Int), (b : Int)) := e.symm
  rw [e1]
  exact ⟨by show (0 : Int) ≤ a; omega, by show (a : Int) ≤ p.n; omega, by show (0 : Int) ≤ b; omega, by show (b : Int) ≤ p.n; omega⟩
theorem mem_ties {L : Int} {t : Int × Int} : t ∈ p.tiesAt L ↔ ∃ a b : Nat, t = ((a : Int), (b : Int)) ∧ a < b ∧ b ≤ p.n ∧ p.wide a b = false ∧ p.fst a b ≤ L ∧ ∀ l, p.lst a b = some l → L < l := by
  unfold Pm.tiesAt
  rw [List.mem_map]
  constructor
  · rintro ⟨r, m, e⟩
    obtain ⟨mr, mi⟩ := List.mem_filter.mp m
    obtain ⟨a, b, h1, h2, h3, e2⟩ := (mem_rows p).mp mr
    rw [e2] at e mi
    unfold inn at mi
    rw [Bool.and_eq_true] at mi
    refine ⟨a, b, e.symm, h1, h2, h3, of_decide_eq_true mi.1, fun l hl => ?_⟩
    have := mi.2
    rw [show (((a : Int), (b : Int), p.fst a b, p.lst a b) : Row).2.2.2 = some l from hl] at this
    exact of_decide_eq_true this
  · rintro ⟨a, b, e, h1, h2, h3, h4, h5⟩
    refine ⟨((a : Int), (b : Int), p.fst a b, p.lst a b), List.mem_filter.mpr ⟨(mem_rows p).mpr ⟨a, b, h1, h2, h3, rfl⟩, ?_⟩, e.symm⟩
    unfold inn
    rw [Bool.and_eq_true]
    refine ⟨decide_eq_true h4, ?_⟩
    show (match p.lst a b with
      | none => true
      | some l => decide (L < l)) = true
    cases hl : p.lst a b with
    | none => rfl
    | some l => exact decide_eq_true (h5 l hl)
/-! ### ranges put together -/
theorem merge_no {f : Int → Bool} {st : Sg} {c : Int} {nx : Option Int} (h : f c = false) : sgO (sgS f st c) nx = sgO st (some c) := by
  unfold sgS
  rw [if_neg (by rw [h]; decide)]
  obtain ⟨cl, op⟩ := st
  cases op with
  | none => rfl
  | some b => show (cl ++ [(b, some c)]) ++ [] = cl ++ [(b, some c)]; rw [List.append_nil]
theorem merge_yes {f : Int → Bool} {E : List Int} {c : Int} {nx : Option Int} (h : f c = true) (hE : ∀ d, d ∈ E → d ≠ c) :
    (∃ ini b, (sgO (sg f E) (some c)).map p.qe = ini ++ [(b, some (p.q c))] ∧ (sgO (sgS f (sg f E) c) nx).map p.qe = ini ++ [(b, nx.map p.q)]) ∨
    (((sgO (sg f E) (some c)).map p.qe = [] ∨ ∃ ini b e, (sgO (sg f E) (some c)).map p.qe = ini ++ [(b, e)] ∧ e ≠ some (p.q c)) ∧ (sgO (sgS f (sg f E) c) nx).map p.qe = (sgO (sg f E) (some c)).map p.qe ++ [(p.q c, nx.map p.q)]) := by
  have hc := cld f E
  generalize sg f E = st at *
  unfold sgS
  rw [if_pos h]
  obtain ⟨cl, op⟩ := st
  cases op with
  | some b =>
    left
    refine ⟨cl.map p.qe, p.q b, ?_, ?_⟩
    · show (cl ++ [(b, some c)]).map p.qe = _
      rw [List.map_append]; rfl
    · show (cl ++ [(b, nx)]).map p.qe = _
      rw [List.map_append]; rfl
  | none =>
    right
    have e1 : sgO (cl, (none : Option Int)) (some c) = cl := List.append_nil _
    rw [e1]
    refine ⟨?_, ?_⟩
    · rcases List.eq_nil_or_concat cl with e | ⟨ini, z, e⟩
      · left; rw [e]; rfl
      · right
        obtain ⟨b, d⟩ := z
        have e' : cl = ini ++ [(b, d)] := by rw [e]; simp
        refine ⟨ini.map p.qe, p.q b, d.map p.q, by rw [e', List.map_append]; rfl, ?_⟩
        obtain ⟨x, hx, mx⟩ := hc b d (by rw [e']; exact List.mem_append_right _ (List.mem_singleton.mpr rfl))
        rw [hx]
        intro z
        exact hE x mx ((q_inj p).mp (Option.some.inj z))
    · show (cl ++ [(c, nx)]).map p.qe = _
      rw [List.map_append]; rfl
theorem sure_step {C : List Int} (hp : (0 :: C).Pairwise (· < ·)) (hs : ∀ x, x ∈ 0 :: C → Sml x) (hl : (0 :: C).length ≤ 200) {i : Nat} {c : Int} (hc : (0 :: C)[i]? = some c) :
    ∃ o, (m_sure_lengths_b1 p.cart (p.rows.map p.qr) ((0 :: C).map p.q) ((sgO (sg p.f ((0 :: C).take i)) (some c)).map p.qe) ((i : Int), p.q c) = some (.nx o) ∨ m_sure_lengths_b1 p.cart (p.rows.map p.qr) ((0 :: C).map p.q) ((sgO (sg p.f ((0 :: C).take i)) (some c)).map p.qe) ((i : Int), p.q c) = some (.lv (.ct o))) ∧
      o = (sgO (sgS p.f (sg p.f ((0 :: C).take i)) c) ((0 :: C)[i + 1]?)).map p.qe := by
  generalize hE : (0 :: C) = E at *
  have hn : p.n ≤ 8 := p.n1
  have hi : i < E.length := (List.getElem?_eq_some_iff.mp hc).1
  have mc : c ∈ E := List.mem_of_getElem? hc
  have sc := hs c mc
  have ln : p.cart.2.1.length = p.n := List.length_map _
  have e_ties : lcM (fun row_1 : Int × Int × (Int × Int) × Option (Int × Int) => m_is_length_within (p.q c) row_1.2.2.1 row_1.2.2.2) (fun row_1 => some (row_1.1, row_1.2.1)) (p.rows.map p.qr) = some (p.tiesAt c) := by
    rw [lcM_mapl]
    exact lcM_some (c' := inn c) (f' := fun r => (r.1, r.2.1)) p.rows fun r m => ⟨within_eq p sc (rows_sm p r m).1 (rows_sm p r m).2, fun _ => rfl⟩
  have slen : ∀ nx, (sgO (sg p.f (E.take i)) nx).length ≤ 300 := by
    have : ∀ (Z : List Int) (st : Sg), (Z.foldl (sgS p.f) st).1.length ≤ st.1.length + Z.length := by
      intro Z
      induction Z with
      | nil => intro st; exact Nat.le_refl _
      | cons z Z ih =>
        intro st
        rw [List.foldl_cons, List.length_cons]
        have := ih (sgS p.f st z)
        have : (sgS p.f st z).1.length ≤ st.1.length + 1 := by
          unfold sgS
          split
          · show st.1.length ≤ _; omega
          · cases st.2 with
            | none => show st.1.length ≤ _; omega
            | some b => show (st.1 ++ [_]).length ≤ _; rw [List.length_append, List.length_singleton]; omega
        omega
    intro nx
    have h1 := this (E.take i) ([], none)
    rw [List.length_take, List.length_nil] at h1
    unfold sgO
    rw [List.length_append]
    have : (sg p.f (E.take i)).1.length ≤ 200 := by unfold sg; omega
    cases (sg p.f (E.take i)).2 <;> simp <;> omega
  unfold m_sure_lengths_b1
  rw [bd_s]
  show ∃ o, ((lcM (fun row_1 : Int × Int × (Int × Int) × Option (Int × Int) => m_is_length_within (p.q c) row_1.2.2.1 row_1.2.2.2) (fun row_1 => some (row_1.1, row_1.2.1)) (p.rows.map p.qr)).bind _ = _ ∨ (lcM (fun row_1 : Int × Int × (Int × Int) × Option (Int × Int) => m_is_length_within (p.q c) row_1.2.2.1 row_1.2.2.2) (fun row_1 => some (row_1.1, row_1.2.1)) (p.rows.map p.qr)).bind _ = _) ∧ _
  rw [e_ties, bd_s]
  have e_lab : m_label_marks (p.cart.2.1.length : Int) (p.tiesAt c) = some (lab p.n (p.tiesAt c)) := by
    rw [ln]
    exact labG_eq (ties_ok p c) (by omega)
  rw [e_lab]
  have e_any : ((b2 ((some (lab p.n (p.tiesAt c))).bind (fun xs => some (xs.map (fun label_1 => (!decide (label_1 = (0 : Int))))))) (some ()) (fun x y => some (x, y))).bind (fun t => some ((t.1.any id)))) = some (!p.f c) := by
    rw [bd_s, b2_s, bd_s]
    unfold Pm.f allZ
    exact congrArg some any_zero
  rw [e_any, bIf_s]
  by_cases hf : p.f c = true
  · rw [if_neg (by rw [hf]; decide)]
    have hend : (bIf (some (decide (((i : Int) + (1 : Int)) < ((E.map p.q).length : Int)))) ((atG (E.map p.q) ((i : Int) + (1 : Int))).map some) (some none)) = some ((E[i + 1]?).map p.q) := by
      rw [List.length_map, bIf_s]
      by_cases h1 : i + 1 < E.length
      · rw [decide_eq_true (by omega), if_pos rfl, show ((i : Int) + 1) = ((i + 1 : Nat) : Int) by omega, atG_get, List.getElem?_map, List.getElem?_eq_getElem h1]; rfl
      · rw [decide_eq_false (by omega), if_neg (by decide), List.getElem?_eq_none (by omega)]; rfl
    show ∃ o, ((bIf _ _ _).bind _ = _ ∨ (bIf _ _ _).bind _ = _) ∧ _
    rw [hend, bd_s]
    have hne : ∀ d, d ∈ E.take i → d ≠ c := fun d m => by
      obtain ⟨j, hj, e⟩ := List.getElem_of_mem m
      rw [List.getElem_take] at e
      rw [List.length_take] at hj
      have h2 := List.pairwise_iff_getElem.mp hp j i (by omega) hi (by omega)
      have h3 := (List.getElem?_eq_some_iff.mp hc).2
      omega
    have sl := slen (some c)
    rcases merge_yes p (nx := E[i + 1]?) hf hne with ⟨ini, b, e1, e2⟩ | ⟨e0, e2⟩
    · refine ⟨_, .inl ?_, rfl⟩
      rw [e2, e1]
      have : (ini ++ [(b, some (p.q c))]).isEmpty = false := by cases ini <;> rfl
      rw [this, atG_last]
      show bIf (bAnd (some (!false)) (some (decide (some (p.q c) = some (p.q c))))) _ _ = _
      rw [bAnd_s, if_pos (show (!false) = true from rfl), decide_eq_true rfl, bIf_s, if_pos rfl]
      show (setG _ _ _).bind _ = _
      rw [setG_last]
      rfl
    · refine ⟨_, .inl ?_, rfl⟩
      rw [e2]
      have tst : bAnd (some (!((sgO (sg p.f (E.take i)) (some c)).map p.qe).isEmpty)) (b2 ((atG ((sgO (sg p.f (E.take i)) (some c)).map p.qe) (-(1 : Int))).map (fun x => x.2)) (some (some (p.q c))) (fun x y => some (decide (x = y)))) = some false := by
        rcases e0 with e0 | ⟨ini, b, e, e0, ne⟩
        · rw [e0]; rfl
        · rw [e0]
          have : (ini ++ [(b, e)]).isEmpty = false := by cases ini <;> rfl
          rw [this, atG_last]
          show bAnd (some (!false)) (some (decide (e = some (p.q c)))) = _
          rw [bAnd_s, if_pos (show (!false) = true from rfl), decide_eq_false ne]
      show bIf (bAnd _ _) _ _ = _
      rw [tst, bIf_s, if_neg (by decide), bd_s, appG_eq (by rw [List.length_map]; omega)]
      rfl
  · have hf' : p.f c = false := by simpa using hf
    rw [if_pos (by rw [hf']; rfl)]
    exact ⟨_, .inr rfl, by rw [merge_no hf']⟩
theorem enL_take {α : Type} {xs : List α} {zs : List (Int × α)} {x : Int × α} {r : List (Int × α)} (h : enL xs = zs ++ x :: r) : xs[zs.length]? = some x.2 ∧ x.1 = (zs.length : Int) := by
  have := enL_get xs zs.length
  rw [h, List.getElem?_append_right (Nat.le_refl _), Nat.sub_self] at this
  cases hx : xs[zs.length]? with
  | none => rw [hx] at this; cases this
  | some y =>
    rw [hx] at this
    have e : x = ((zs.length : Int), y) := Option.some.inj this
    rw [e]
    exact ⟨rfl, rfl⟩
theorem sure_eq : ∃ C : List Int, (0 :: C).Pairwise (· < ·) ∧ (∀ x, x ∈ C ↔ p.Crit x) ∧ m_sure_lengths p.cart = some ((sgO (sg p.f (0 :: C)) none).map p.qe) := by
  obtain ⟨C, c1, c2, c3, c4⟩ := crit_eq p
  refine ⟨C, c2, c3, ?_⟩
  have sml : ∀ x, x ∈ 0 :: C → Sml x := fun x m => by
    rcases List.mem_cons.mp m with m | m
    · subst m; show (0 : Int).natAbs ≤ _; decide
    · obtain ⟨_, a, b, _, _, _, e⟩ := (c3 x).mp m
      rcases e with e | e
      · rw [e]; exact Nat.le_trans (fst_sm p a b) (by decide)
      · exact Nat.le_trans (lst_sm p a b e) (by decide)
  unfold m_sure_lengths
  rw [ranges_eq p, bd_s, c1, bd_s, bd_s, bd_s]
  obtain ⟨s', e1, e2⟩ := forL_inv (f := m_sure_lengths_b1 p.cart (p.rows.map p.qr) ((0 :: C).map p.q)) (fun zs s => s = (sgO (sg p.f ((0 :: C).take zs.length)) ((0 :: C)[zs.length]?)).map p.qe) [] (enL ((0 :: C).map p.q)) [] (by
      show [] = (sgO (sg p.f []) _).map p.qe
      rfl) fun zs x s hI ⟨r, hr⟩ => by
    obtain ⟨g1, g2⟩ := enL_take hr
    rw [List.getElem?_map] at g1
    rw [List.nil_append] at hI
    cases hc : (0 :: C)[zs.length]? with
    | none => rw [hc] at g1; cases g1
    | some c =>
      rw [hc] at g1 hI
      obtain ⟨o, q1, q2⟩ := sure_step p c2 sml c4 hc
      have ex : x = ((zs.length : Int), p.q c) := by
        obtain ⟨x1, x2⟩ := x
        have : p.q c = x2 := Option.some.inj g1
        rw [this]; exact congrArg (·, x2) g2
      rw [ex, hI]
      refine ⟨o, q1, ?_⟩
      rw [q2, List.nil_append, List.length_append, List.length_singleton]
      have : (0 :: C).take (zs.length + 1) = (0 :: C).take zs.length ++ [c] := by
        rw [List.take_add_one, hc]; rfl
      rw [this, sg_snoc]
  rw [e1]
  show some s' = _
  rw [e2, List.nil_append, enL_len, List.length_map, List.take_length, List.getElem?_eq_none (Nat.le_refl _)]
end
end K44
set_option Elab.async false
set_option linter.all false
set_option maxRecDepth 100000
/-! k44: the law's own walk: stands. -/
namespace K44
open L2.T L2.M
section
variable {T L s : Int}
/-- before, on, beyond -/
def Bef (T s x : Int) : Prop := x + s < -T
def Onn (T L s x : Int) : Prop := T ≤ x + s ∧ x + s ≤ L - T
def Bey (T L s x : Int) : Prop := L + T < x + s
theorem st_bef {u v x : Int} (h : Bef T s x) : m_law_stand_b1 T L s (u, v) x = some (.nx (u + 1, v)) := by
  unfold m_law_stand_b1
  rw [bd_s, bIf_s, if_pos (decide_eq_true (show x + s < -T from h))]
  rfl
theorem st_on {u v x : Int} (hT : 0 ≤ T) (h : Onn T L s x) : m_law_stand_b1 T L s (u, v) x = some (.nx (u, v + 1)) := by
  obtain ⟨h1, h2⟩ := h
  unfold m_law_stand_b1
  rw [bd_s, bIf_s, if_neg (by rw [decide_eq_true_eq]; omega), bAnd_s, if_pos (decide_eq_true h1), bIf_s, if_pos (decide_eq_true h2)]
  rfl
theorem st_bey {u v x : Int} (hT : 0 ≤ T) (hL : 0 ≤ L) (h : Bey T L s x) : m_law_stand_b1 T L s (u, v) x = some (.nx (u, v)) := by
  have h' : L + T < x + s := h
  unfold m_law_stand_b1
  rw [bd_s, bIf_s, if_neg (by rw [decide_eq_true_eq]; omega), bAnd_s]
  have : (if decide (T ≤ x + s) = true then (some (decide (x + s ≤ L - T)) : Option Bool) else some false) = some false := by
    split
    · rw [decide_eq_false (by omega)]
    · rfl
  rw [this, bIf_s, if_neg (by decide), bIf_s, if_neg (by rw [decide_eq_true_eq]; omega)]
theorem st_no {u v x : Int} (h1 : ¬ Bef T s x) (h2 : ¬ Onn T L s x) (h3 : ¬ Bey T L s x) : m_law_stand_b1 T L s (u, v) x = some (.lv (.rt none)) := by
  have a1 : ¬ (x + s < -T) := h1
  have a3 : ¬ (L + T < x + s) := h3
  unfold m_law_stand_b1
  rw [bd_s, bIf_s, if_neg (by rw [decide_eq_true_eq]; exact a1), bAnd_s]
  have : (if decide (T ≤ x + s) = true then (some (decide (x + s ≤ L - T)) : Option Bool) else some false) = some false := by
    split
    · rename_i z
      rw [decide_eq_false (fun q => h2 ⟨of_decide_eq_true z, q⟩)]
    · rfl
  rw [this, bIf_s, if_neg (by decide), bIf_s, if_pos (by rw [decide_eq_true_eq]; omega)]
  rfl
/-- three parts of the spots -/
def Cut3 (T L s : Int) (xs A B C : List Int) : Prop := xs = A ++ (B ++ C) ∧ (∀ x, x ∈ A → Bef T s x) ∧ (∀ x, x ∈ B → Onn T L s x) ∧ ∀ x, x ∈ C → Bey T L s x
theorem run_bey (hT : 0 ≤ T) (hL : 0 ≤ L) : ∀ (C : List Int) (u v : Int), (∀ x, x ∈ C → Bey T L s x) → forL (m_law_stand_b1 T L s) C (u, v) = some (.dn (u, v))
  | [], _, _, _ => rfl
  | x :: C, u, v, h => by rw [forL_nx (st_bey hT hL (h x (List.mem_cons_self ..))), run_bey hT hL C u v fun y m => h y (List.mem_cons_of_mem _ m)]
theorem run_on (hT : 0 ≤ T) (hL : 0 ≤ L) {C : List Int} (hC : ∀ x, x ∈ C → Bey T L s x) : ∀ (B : List Int) (u v : Int), (∀ x, x ∈ B → Onn T L s x) → forL (m_law_stand_b1 T L s) (B ++ C) (u, v) = some (.dn (u, v + B.length))
  | [], u, v, _ => by rw [List.nil_append, run_bey hT hL C u v hC, List.length_nil]; simp
  | x :: B, u, v, h => by
    rw [List.cons_append, forL_nx (st_on hT (h x (List.mem_cons_self ..))), run_on hT hL hC B u (v + 1) fun y m => h y (List.mem_cons_of_mem _ m), List.length_cons]
    congr 3; omega
theorem run_cut (hT : 0 ≤ T) (hL : 0 ≤ L) {B C : List Int} (hB : ∀ x, x ∈ B → Onn T L s x) (hC : ∀ x, x ∈ C → Bey T L s x) : ∀ (A : List Int) (u v : Int), (∀ x, x ∈ A → Bef T s x) → forL (m_law_stand_b1 T L s) (A ++ (B ++ C)) (u, v) = some (.dn (u + A.length, v + B.length))
  | [], u, v, _ => by rw [List.nil_append, run_on hT hL hC B u v hB, List.length_nil]; simp
  | x :: A, u, v, h => by
    rw [List.cons_append, forL_nx (st_bef (h x (List.mem_cons_self ..))), run_cut hT hL hB hC A (u + 1) v fun y m => h y (List.mem_cons_of_mem _ m), List.length_cons]
    congr 3; omega
/-- the walk over ascending spots finds three parts, or none -/
theorem run_any (hT : 0 ≤ T) (hL : 0 ≤ L) : ∀ (xs : List Int) (u v : Int), xs.Pairwise (· < ·) → forL (m_law_stand_b1 T L s) xs (u, v) = some (.rt none) ∨ ∃ A B C, Cut3 T L s xs A B C
  | [], _, _, _ => .inr ⟨[], [], [], rfl, (by intro _ m; cases m), (by intro _ m; cases m), (by intro _ m; cases m)⟩
  | x :: xs, u, v, h => by
    obtain ⟨h1, h2⟩ := List.pairwise_cons.mp h
    by_cases q1 : Bef T s x
    · rcases run_any hT hL xs (u + 1) v h2 with e | ⟨A, B, C, e, a, b, c⟩
      · exact .inl (by rw [forL_nx (st_bef q1), e])
      · refine .inr ⟨x :: A, B, C, by rw [e]; rfl, fun y m => ?_, b, c⟩
        rcases List.mem_cons.mp m with m | m
        · rw [m]; exact q1
        · exact a y m
    · by_cases q2 : Onn T L s x
      · rcases run_any hT hL xs u (v + 1) h2 with e | ⟨A, B, C, e, a, b, c⟩
        · exact .inl (by rw [forL_nx (st_on hT q2), e])
        · have hA : A = [] := by
            cases A with
            | nil => rfl
            | cons y A =>
              exfalso
              have m1 := a y (List.mem_cons_self ..)
              have m2 := h1 y (by rw [e]; exact List.mem_append_left _ (List.mem_cons_self ..))
              unfold Bef at m1; obtain ⟨g1, g2⟩ := q2; omega
          subst hA
          refine .inr ⟨[], x :: B, C, by rw [e]; rfl, (by intro _ m; cases m), fun y m => ?_, c⟩
          rcases List.mem_cons.mp m with m | m
          · rw [m]; exact q2
          · exact b y m
      · by_cases q3 : Bey T L s x
        · refine .inr ⟨[], [], x :: xs, rfl, (by intro _ m; cases m), (by intro _ m; cases m), fun y m => ?_⟩
          rcases List.mem_cons.mp m with m | m
          · rw [m]; exact q3
          · have := h1 y m
            unfold Bey at *; omega
        · exact .inl (forL_rt (st_no q1 q2 q3))
end
section
variable (p : Pm)
/-- the shift s lets just the axles a .. b - 1 stand -/
def Pm.Stand (L s : Int) (a b : Nat) : Prop := a ≤ b ∧ b ≤ p.n ∧ (∀ i, i < a → Bef p.T s (p.X i)) ∧ (∀ i, a ≤ i → i < b → Onn p.T L s (p.X i)) ∧ ∀ i, b ≤ i → i < p.n → Bey p.T L s (p.X i)
theorem stand_cut {L s : Int} {A B C : List Int} (h : Cut3 p.T L s p.xs A B C) : p.Stand L s A.length (A.length + B.length) := by
  obtain ⟨e, a, b, c⟩ := h
  have ln : p.n = A.length + (B.length + C.length) := by show p.xs.length = _; rw [e, List.length_append, List.length_append]
  have gx : ∀ i, i < p.n → p.xs[i]? = some (p.X i) := fun i hi => by
    unfold Pm.X; rw [getD_lt _ hi]; exact List.getElem?_eq_getElem hi
  refine ⟨by omega, by omega, fun i hi => ?_, fun i h1 h2 => ?_, fun i h1 h2 => ?_⟩
  · have := gx i (by omega)
    rw [e, List.getElem?_append_left hi] at this
    exact a _ (List.mem_of_getElem? this)
  · have := gx i (by omega)
    rw [e, List.getElem?_append_right h1, List.getElem?_append_left (by omega)] at this
    exact b _ (List.mem_of_getElem? this)
  · have := gx i h2
    rw [e, List.getElem?_append_right (by omega), List.getElem?_append_right (by omega)] at this
    exact c _ (List.mem_of_getElem? this)
theorem cut_stand {L s : Int} {a b : Nat} (h : p.Stand L s a b) : Cut3 p.T L s p.xs (p.xs.take a) ((p.xs.drop a).take (b - a)) (p.xs.drop b) := by
  obtain ⟨h1, h2, h3, h4, h5⟩ := h
  have gx : ∀ i (x : Int), p.xs[i]? = some x → i < p.n ∧ p.X i = x := fun i x e => by
    have hi := (List.getElem?_eq_some_iff.mp e).1
    exact ⟨hi, by unfold Pm.X; rw [getD_lt _ hi]; exact (List.getElem?_eq_some_iff.mp e).2⟩
  refine ⟨?_, fun x m => ?_, fun x m => ?_, fun x m => ?_⟩
  · have : p.xs.drop b = (p.xs.drop a).drop (b - a) := by rw [List.drop_drop]; congr 1; omega
    rw [this, List.take_append_drop, List.take_append_drop]
  · obtain ⟨i, hi, e⟩ := List.getElem_of_mem m
    rw [List.length_take] at hi
    rw [List.getElem_take] at e
    obtain ⟨q1, q2⟩ := gx i x (by rw [List.getElem?_eq_getElem (by omega), e])
    rw [← q2]; exact h3 i (by omega)
  · obtain ⟨i, hi, e⟩ := List.getElem_of_mem m
    rw [List.length_take, List.length_drop] at hi
    rw [List.getElem_take, List.getElem_drop] at e
    obtain ⟨q1, q2⟩ := gx (a + i) x (by rw [List.getElem?_eq_getElem (by omega), e])
    rw [← q2]; exact h4 (a + i) (by omega) (by omega)
  · obtain ⟨i, hi, e⟩ := List.getElem_of_mem m
    rw [List.length_drop] at hi
    rw [List.getElem_drop] at e
    obtain ⟨q1, q2⟩ := gx (b + i) x (by rw [List.getElem?_eq_getElem (by omega), e])
    rw [← q2]; exact h5 (b + i) (by omega) q1
theorem stand_yes {L s : Int} (hL : 0 ≤ L) {a b : Nat} (h : p.Stand L s a b) : m_law_stand p.xs p.T L s = some (some ((a : Int), (b : Int))) := by
  obtain ⟨e, q1, q2, q3⟩ := cut_stand p h
  obtain ⟨h1, h2, _⟩ := h
  unfold m_law_stand
  rw [bd_s, bd_s, bd_s]
  have : forL (m_law_stand_b1 p.T L s) p.xs ((0 : Int), (0 : Int)) = some (.dn ((a : Int), ((b - a : Nat) : Int))) := by
    have := run_cut p.T0 hL q2 q3 (p.xs.take a) 0 0 q1
    rw [← e] at this
    rw [this, List.length_take, List.length_take, List.length_drop]
    have hb : b ≤ p.xs.length := h2
    congr 3
    · omega
    · omega
  rw [this]
  show some (some ((a : Int), (a : Int) + ((b - a : Nat) : Int))) = _
  congr 3; omega
theorem stand_any {L : Int} (hL : 0 ≤ L) (s : Int) : m_law_stand p.xs p.T L s = some none ∨ ∃ a b : Nat, p.Stand L s a b := by
  rcases run_any (s := s) p.T0 hL p.xs 0 0 p.asc with e | ⟨A, B, C, h⟩
  · left
    unfold m_law_stand
    rw [bd_s, bd_s, bd_s, e]
    rfl
  · exact .inr ⟨_, _, stand_cut p h⟩
/-- a stop at the length L -/
def Pm.Stop (L : Int) (a b : Nat) : Prop := a < b ∧ b ≤ p.n ∧ p.wide a b = false ∧ p.fst a b ≤ L ∧ ∀ l, p.lst a b = some l → L < l
theorem wide_no {a b : Nat} : p.wide a b = false ↔ (0 < a → 2 * p.T < p.X a - p.X (a - 1)) ∧ (b < p.n → 2 * p.T < p.X b - p.X (b - 1)) := by
  unfold Pm.wide
  rw [Bool.or_eq_false_iff, Bool.and_eq_false_iff, Bool.and_eq_false_iff, decide_eq_false_iff_not, decide_eq_false_iff_not, decide_eq_false_iff_not, decide_eq_false_iff_not]
  constructor
  · rintro ⟨h1, h2⟩
    exact ⟨fun h => by rcases h1 with h1 | h1 <;> omega, fun h => by rcases h2 with h2 | h2 <;> omega⟩
  · rintro ⟨h1, h2⟩
    refine ⟨?_, ?_⟩
    · by_cases h : 0 < a
      · have := h1 h; right; omega
      · exact .inl h
    · by_cases h : b < p.n
      · have := h2 h; right; omega
      · exact .inl h
theorem stand_stop {L s : Int} {a b : Nat} (hab : a < b) (h : p.Stand L s a b) : p.Stop L a b := by
  obtain ⟨h1, h2, h3, h4, h5⟩ := h
  have o1 := h4 a (Nat.le_refl _) hab
  have o2 := h4 (b - 1) (by omega) (by omega)
  refine ⟨hab, h2, (wide_no p).mpr ⟨fun h => ?_, fun h => ?_⟩, ?_, fun l hl => ?_⟩
  · have := h3 (a - 1) (by omega)
    unfold Bef at this; unfold Onn at o1; omega
  · have := h5 b (Nat.le_refl _) h
    unfold Bey at this; unfold Onn at o2; omega
  · unfold Pm.fst; unfold Onn at o1 o2; omega
  · unfold Pm.lst at hl
    split at hl
    · cases hl
    · rename_i hn
      cases hl
      have h6 := h3 (a - 1) (by omega)
      have h7 := h5 b (Nat.le_refl _) (by have : p.n = p.xs.length := rfl; omega)
      unfold Bef at h6; unfold Bey at h7; omega
/-- between the ends there is a shift that does it -/
theorem stop_stand {L s : Int} {a b : Nat} (h : p.Stop L a b) (e1 : p.T - p.X a ≤ s) (e2 : b < p.n → L + p.T - p.X b < s) (e3 : s ≤ L - p.T - p.X (b - 1)) (e4 : 0 < a → s < -p.T - p.X (a - 1)) : p.Stand L s a b := by
  obtain ⟨h1, h2, _⟩ := h
  refine ⟨by omega, h2, fun i hi => ?_, fun i q1 q2 => ?_, fun i q1 q2 => ?_⟩
  · have : p.X i ≤ p.X (a - 1) := by
      by_cases e : i = a - 1
      · rw [e]; exact Int.le_refl _
      · exact Int.le_of_lt (X_lt p (by omega) (by omega))
    have := e4 (by omega)
    unfold Bef; omega
  · have g1 : p.X a ≤ p.X i := by
      by_cases e : i = a
      · rw [e]; exact Int.le_refl _
      · exact Int.le_of_lt (X_lt p (by omega) (by omega))
    have g2 : p.X i ≤ p.X (b - 1) := by
      by_cases e : i = b - 1
      · rw [e]; exact Int.le_refl _
      · exact Int.le_of_lt (X_lt p (by omega) (by omega))
    unfold Onn; omega
  · have g1 : p.X b ≤ p.X i := by
      by_cases e : i = b
      · rw [e]; exact Int.le_refl _
      · exact Int.le_of_lt (X_lt p (by omega) q2)
    have := e2 (by omega)
    unfold Bey; omega
end
end K44
set_option Elab.async false
set_option linter.all false
set_option maxRecDepth 100000
/-! k44: the law's own walk: shifts, stops. -/
namespace K44
open L2 L2.T L2.M
/-- a loop that gathers keys -/
theorem keys_run {f : List Int → Int → Option (List Int)} {P : Int → Prop} (hf : ∀ (s : List Int) (x : Int), s.Nodup → s.length < 16777216 → ∃ s', f s x = some s' ∧ s'.Nodup ∧ s'.length ≤ s.length + 1 ∧ ∀ e, e ∈ s' ↔ e ∈ s ∨ (P x ∧ e = x)) : ∀ (xs s : List Int), s.Nodup → s.length + xs.length < 16777216 → ∃ s', forM f xs s = some s' ∧ s'.Nodup ∧ s'.length ≤ s.length + xs.length ∧ ∀ e, e ∈ s' ↔ e ∈ s ∨ (P e ∧ e ∈ xs)
  | [], s, hn, hl => ⟨s, rfl, hn, by simp, fun e => ⟨.inl, fun m => m.elim id fun ⟨_, m⟩ => by cases m⟩⟩
  | x :: xs, s, hn, hl => by
    rw [List.length_cons] at hl
    obtain ⟨s1, e1, n1, l1, m1⟩ := hf s x hn (by omega)
    obtain ⟨s2, e2, n2, l2, m2⟩ := keys_run hf xs s1 n1 (by omega)
    refine ⟨s2, by rw [forM_cons, e1, bd_s, e2], n2, by rw [List.length_cons]; omega, fun e => ?_⟩
    rw [m2, m1]
    constructor
    · rintro ((m | ⟨h, m⟩) | ⟨h, m⟩)
      · exact .inl m
      · exact .inr ⟨by rw [m]; exact h, by rw [m]; exact List.mem_cons_self ..⟩
      · exact .inr ⟨h, List.mem_cons_of_mem _ m⟩
    · rintro (m | ⟨h, m⟩)
      · exact .inl (.inl m)
      · rcases List.mem_cons.mp m with m | m
        · exact .inl (.inr ⟨by rw [← m]; exact h, m⟩)
        · exact .inr ⟨h, m⟩
theorem key_put {s : List Int} {x : Int} (hn : s.Nodup) (hl : s.length < 16777216) : ∃ s', keyG s x = some s' ∧ s'.Nodup ∧ s'.length ≤ s.length + 1 ∧ ∀ e, e ∈ s' ↔ e ∈ s ∨ e = x := by
  rw [keyG_eq hl]
  by_cases h : x ∈ s
  · rw [if_pos h]
    exact ⟨s, rfl, hn, by omega, fun e => ⟨.inl, fun m => m.elim id fun m => by rw [m]; exact h⟩⟩
  · rw [if_neg h]
    refine ⟨s ++ [x], rfl, ?_, by rw [List.length_append]; exact Nat.le_refl _, fun e => by rw [List.mem_append, List.mem_singleton]⟩
    exact List.nodup_append.mpr ⟨hn, List.nodup_cons.mpr ⟨List.not_mem_nil, List.nodup_nil⟩, fun a ha b hb e => h (by rw [List.mem_singleton] at hb; rw [← hb, ← e]; exact ha)⟩
/-- loops over loops that gather keys -/
theorem keys_run2 {f : List Int → Int → Option (List Int)} {Q : Int → Int → Prop} {w : Nat} (hf : ∀ (s : List Int) (x : Int), s.Nodup → s.length + w < 16777216 → ∃ s', f s x = some s' ∧ s'.Nodup ∧ s'.length ≤ s.length + w ∧ ∀ e, e ∈ s' ↔ e ∈ s ∨ Q x e) : ∀ (xs s : List Int), s.Nodup → s.length + w * xs.length < 16777216 → ∃ s', forM f xs s = some s' ∧ s'.Nodup ∧ s'.length ≤ s.length + w * xs.length ∧ ∀ e, e ∈ s' ↔ e ∈ s ∨ ∃ x, x ∈ xs ∧ Q x e
  | [], s, hn, hl => ⟨s, rfl, hn, by simp, fun e => ⟨.inl, fun m => m.elim id fun ⟨_, m, _⟩ => by cases m⟩⟩
  | x :: xs, s, hn, hl => by
    rw [List.length_cons, Nat.mul_succ] at hl
    obtain ⟨s1, e1, n1, l1, m1⟩ := hf s x hn (by omega)
    obtain ⟨s2, e2, n2, l2, m2⟩ := keys_run2 hf xs s1 n1 (by omega)
    refine ⟨s2, by rw [forM_cons, e1, bd_s, e2], n2, by rw [List.length_cons, Nat.mul_succ]; omega, fun e => ?_⟩
    rw [m2, m1]
    constructor
    · rintro ((m | h) | ⟨y, m, h⟩)
      · exact .inl m
      · exact .inr ⟨x, List.mem_cons_self .., h⟩
      · exact .inr ⟨y, List.mem_cons_of_mem _ m, h⟩
    · rintro (m | ⟨y, m, h⟩)
      · exact .inl (.inl m)
      · rcases List.mem_cons.mp m with m | m
        · exact .inl (.inr (by rw [← m]; exact h))
        · exact .inr ⟨y, m, h⟩
theorem rgL_get {n i : Nat} (h : i < n) : (rgL 0 (n : Int))[i]? = some (i : Int) := by
  unfold rgL
  rw [List.getElem?_map, List.getElem?_range (by omega)]
  simp
theorem rgL_split {n : Nat} {zs r : List Int} {k : Int} (h : rgL 0 (n : Int) = zs ++ k :: r) : zs.length < n ∧ k = (zs.length : Int) := by
  have hl := congrArg List.length h
  rw [rgL_len, List.length_append, List.length_cons] at hl
  have h1 : zs.length < n := by omega
  refine ⟨h1, ?_⟩
  have := rgL_get h1
  rw [h, List.getElem?_append_right (Nat.le_refl _), Nat.sub_self] at this
  exact Option.some.inj this
section
variable (p : Pm)
def four (T L x e : Int) : Prop := e = -x - T ∨ e = -x + T ∨ e = L - x - T ∨ e = L - x + T
/-- an end of a shift -/
def Pm.End (L e : Int) : Prop := ∃ x, x ∈ p.xs ∧ four p.T L x e
theorem shifts_ok (L : Int) : ∃ S : List (Int × Int × Int), m_law_shifts p.xs p.T L = some S ∧ S.length ≤ 1000 ∧ (∀ e, p.End L e → ∃ l r, (e, l, r) ∈ S) ∧
    ∀ e g, p.End L e → p.End L g → e < g → ∃ g' l r, p.End L g' ∧ e < g' ∧ ((e + g') / 2, l, r) ∈ S ∧ ∀ h, p.End L h → e < h → g' ≤ h := by
  have hn : p.n ≤ 8 := p.n1
  have hn' : p.xs.length ≤ 8 := p.n1
  have n0 := p.n0
  have kb1 : ∀ (s : List Int) (x : Int), s.Nodup → s.length < 16777216 → ∃ s', m_law_shifts_b1 s x = some s' ∧ s'.Nodup ∧ s'.length ≤ s.length + 1 ∧ ∀ e, e ∈ s' ↔ e ∈ s ∨ (True ∧ e = x) := fun s x h1 h2 => by
    obtain ⟨s', q1, q2, q3, q4⟩ := key_put (x := x) h1 h2
    refine ⟨s', ?_, q2, q3, fun e => by rw [q4, true_and]⟩
    unfold m_law_shifts_b1
    rw [bd_s, q1]; rfl
  have kb2 : ∀ (s : List Int) (x : Int), s.Nodup → s.length + 4 < 16777216 → ∃ s', m_law_shifts_b2 p.T L s x = some s' ∧ s'.Nodup ∧ s'.length ≤ s.length + 4 ∧ ∀ e, e ∈ s' ↔ e ∈ s ∨ four p.T L x e := fun s x h1 h2 => by
    obtain ⟨s', q1, q2, q3, q4⟩ := keys_run (P := fun _ => True) kb1 [(-x) - p.T, (-x) + p.T, (L - x) - p.T, (L - x) + p.T] s h1 h2
    refine ⟨s', ?_, q2, q3, fun e => ?_⟩
    · unfold m_law_shifts_b2
      rw [bd_s, q1]; rfl
    · rw [q4]
      simp only [List.mem_cons, List.not_mem_nil, or_false, true_and]
      rfl
  obtain ⟨K, k1, k2, k3, k4⟩ := keys_run2 (Q := four p.T L) kb2 p.xs [] List.nodup_nil (by rw [List.length_nil]; omega)
  have kE : ∀ e, e ∈ srtI K ↔ p.End L e := fun e => by
    rw [srtI_mem, k4]
    exact ⟨fun h => h.elim (fun m => by cases m) id, .inr⟩
  have asc := srtI_lt k2
  have kl : (srtI K).length ≤ 32 := by rw [srtI_len]; rw [List.length_nil] at k3; omega
  generalize hE : srtI K = E at *
  have hne : 0 < E.length := by
    cases hx : p.xs with
    | nil => rw [hx] at n0; cases n0
    | cons x r =>
      have : (-x - p.T) ∈ E := (kE _).mpr ⟨x, by rw [hx]; exact List.mem_cons_self .., .inl rfl⟩
      exact List.length_pos_of_mem this
  have a0 : atG E (0 : Int) = some E[0] := atG_pos hne
  have aL : ∃ z, atG E (-(1 : Int)) = some z := by
    refine ⟨E[E.length - 1], ?_⟩
    show (ixN _ _).bind _ = _
    rw [ixN_last hne]
    exact List.getElem?_eq_getElem _
  obtain ⟨z, aL⟩ := aL
  unfold m_law_shifts
  rw [bd_s, bd_s, k1]
  rw [bd_s, bd_s, hE]
  rw [a0, aL]
  obtain ⟨out, o1, o2, o3⟩ := forM_inv (f := m_law_shifts_b3 E) (fun zs out => out.length ≤ 1 + 2 * zs.length ∧ ∀ i : Nat, i < zs.length → ∀ e, E[i]? = some e → (∃ l r, (e, l, r) ∈ out) ∧ ∀ g, E[i + 1]? = some g → ∃ l r, ((e + g) / 2, l, r) ∈ out) [] (rgL 0 (E.length : Int)) [(E[0] - 2, E[0] - 2, E[0])] ⟨by simp, fun i h => by simp at h⟩ fun zs k s hI ⟨r, hr⟩ => by
    obtain ⟨h1, h2⟩ := rgL_split hr
    rw [List.nil_append] at hI
    obtain ⟨i1, i2⟩ := hI
    have sl : s.length ≤ 100 := by omega
    have g1 : atG E k = some E[zs.length] := by rw [h2]; exact atG_pos h1
    have ll : (s ++ [(E[zs.length], E[zs.length], E[zs.length])]).length = s.length + 1 := by rw [List.length_append]; rfl
    unfold m_law_shifts_b3
    rw [g1]
    show ∃ s', ((appG s (E[zs.length], E[zs.length], E[zs.length])).bind _ = some s') ∧ _
    rw [appG_eq (by omega), bd_s, bIf_s]
    by_cases h3 : zs.length + 1 < E.length
    · have g2 : atG E (k + 1) = some E[zs.length + 1] := by rw [h2, show ((zs.length : Int) + 1) = ((zs.length + 1 : Nat) : Int) by omega]; exact atG_pos h3
      rw [if_pos (by rw [decide_eq_true_eq]; omega), g2]
      show ∃ s', ((((b2 (divG (E[zs.length] + E[zs.length + 1]) 2) _ _).map _).bind _).bind _ = some s') ∧ _
      rw [divG_eq (by decide) (by decide)]
      show ∃ s', ((appG _ ((E[zs.length] + E[zs.length + 1]) / 2, E[zs.length], E[zs.length + 1])).bind _ = some s') ∧ _
      rw [appG_eq (by rw [ll]; omega)]
      refine ⟨_, rfl, ?_, fun i hi e he => ?_⟩
      · rw [List.nil_append, List.length_append, List.length_append, List.length_append]; simp; omega
      · rw [List.nil_append, List.length_append, List.length_singleton] at hi
        by_cases hlt : i < zs.length
        · obtain ⟨⟨l, r, m⟩, q⟩ := i2 i hlt e he
          refine ⟨⟨l, r, List.mem_append_left _ (List.mem_append_left _ m)⟩, fun g hg => ?_⟩
          obtain ⟨l, r, m⟩ := q g hg
          exact ⟨l, r, List.mem_append_left _ (List.mem_append_left _ m)⟩
        · have hi' : i = zs.length := by omega
          subst hi'
          rw [List.getElem?_eq_getElem h1] at he
          have he' := Option.some.inj he
          refine ⟨⟨_, _, List.mem_append_left _ (List.mem_append_right _ (by rw [← he']; exact List.mem_singleton.mpr rfl))⟩, fun g hg => ?_⟩
          rw [List.getElem?_eq_getElem h3] at hg
          have hg' := Option.some.inj hg
          exact ⟨_, _, List.mem_append_right _ (by rw [← he', ← hg']; exact List.mem_singleton.mpr rfl)⟩
    · rw [if_neg (by rw [decide_eq_true_eq]; omega)]
      refine ⟨_, rfl, ?_, fun i hi e he => ?_⟩
      · rw [List.nil_append, List.length_append, List.length_append]; simp; omega
      · rw [List.nil_append, List.length_append, List.length_singleton] at hi
        by_cases hlt : i < zs.length
        · obtain ⟨⟨l, r, m⟩, q⟩ := i2 i hlt e he
          refine ⟨⟨l, r, List.mem_append_left _ m⟩, fun g hg => ?_⟩
          obtain ⟨l, r, m⟩ := q g hg
          exact ⟨l, r, List.mem_append_left _ m⟩
        · have hi' : i = zs.length := by omega
          subst hi'
          rw [List.getElem?_eq_getElem h1] at he
          have he' := Option.some.inj he
          refine ⟨⟨_, _, List.mem_append_right _ (by rw [← he']; exact List.mem_singleton.mpr rfl)⟩, fun g hg => ?_⟩
          rw [List.getElem?_eq_none (by omega)] at hg; cases hg
  rw [List.nil_append, rgL_len] at o2 o3
  have o2' : out.length ≤ 100 := by omega
  show ∃ S, (((rgG 0 (E.length : Int)).bind fun xs => forM (m_law_shifts_b3 E) xs [(E[0] - 2, E[0] - 2, E[0])]).bind _ = some S) ∧ _
  rw [rgG_eq (by decide) (by decide) (by omega) (by omega), bd_s, o1]
  show ∃ S, ((appG out (z + 2, z, z + 2)).bind _ = some S) ∧ _
  rw [appG_eq (by omega)]
  refine ⟨_, rfl, by rw [List.length_append, List.length_singleton]; omega, fun e he => ?_, fun e g he hg hlt => ?_⟩
  · obtain ⟨i, hi, q⟩ := List.getElem_of_mem ((kE e).mpr he)
    obtain ⟨⟨l, r, m⟩, _⟩ := o3 i (by omega) e (by rw [List.getElem?_eq_getElem hi, q])
    exact ⟨l, r, List.mem_append_left _ m⟩
  · obtain ⟨i, hi, q⟩ := List.getElem_of_mem ((kE e).mpr he)
    obtain ⟨j, hj, q2⟩ := List.getElem_of_mem ((kE g).mpr hg)
    have pw := List.pairwise_iff_getElem.mp asc
    have hij : i < j := by
      rcases Nat.lt_trichotomy i j with h | h | h
      · exact h
      · subst h; omega
      · have := pw j i hj hi h; omega
    have hi1 : i + 1 < E.length := by omega
    obtain ⟨_, w⟩ := o3 i (by omega) e (by rw [List.getElem?_eq_getElem hi, q])
    obtain ⟨l, r, m⟩ := w E[i + 1] (List.getElem?_eq_getElem hi1)
    refine ⟨E[i + 1], l, r, (kE _).mp (List.getElem_mem _), by have := pw i (i + 1) hi hi1 (by omega); omega, List.mem_append_left _ m, fun h hh hlt2 => ?_⟩
    obtain ⟨k, hk, q3⟩ := List.getElem_of_mem ((kE h).mpr hh)
    have hik : i < k := by
      rcases Nat.lt_trichotomy i k with h | h | h
      · exact h
      · subst h; omega
      · have := pw k i hk hi h; omega
    rcases Nat.lt_or_ge (i + 1) k with h3 | h3
    · have := pw (i + 1) k hi1 hk h3; omega
    · have : k = i + 1 := by omega
      subst this; omega
end
end K44
set_option Elab.async false
set_option linter.all false
set_option maxRecDepth 100000
/-! k44: the law's stops and what they hold together. -/
namespace K44
open L2 L2.T L2.M
section
variable (p : Pm)
theorem setT_last {ini : List (List Int)} {a b c d v : Int} : (((some (-(1 : Int))).bind (fun i => ixN (ini ++ [[a, b, c, d]]).length i)).bind (fun jr => (setT (ini ++ [[a, b, c, d]]) jr (some v) (some (3 : Int))))) = some (ini ++ [[a, b, c, v]]) := by
  rw [bd_s, ixN_last (by simp), bd_s]
  unfold setT
  rw [List.length_append, List.length_singleton, Nat.add_sub_cancel, List.getElem?_append_right (Nat.le_refl _), Nat.sub_self]
  show some ((ini ++ [[a, b, c, d]]).set ini.length [a, b, c, v]) = _
  rw [List.set_append_right _ _ (Nat.le_refl _), Nat.sub_self]
  rfl
/-- a row of a stop -/
def RowOf (R : List (List Int)) (a b : Int) : Prop := ∃ c d, [a, b, c, d] ∈ R
theorem stops_step {L : Int} (hL : 0 ≤ L) (R : List (List Int)) (x : Int × Int × Int) (hR : R.length < 10000) (hw : ∀ r, r ∈ R → ∃ a b c d, r = [a, b, c, d]) :
    ∃ R', (m_law_stops_b1 p.xs p.T L R x = some (.nx R') ∨ m_law_stops_b1 p.xs p.T L R x = some (.lv (.ct R'))) ∧ R'.length ≤ R.length + 1 ∧ (∀ r, r ∈ R' → ∃ a b c d, r = [a, b, c, d]) ∧
      ∀ a b : Int, RowOf R' a b ↔ RowOf R a b ∨ ∃ a' b' : Nat, a = a' ∧ b = b' ∧ a' < b' ∧ p.Stand L x.1 a' b' := by
  unfold m_law_stops_b1
  rcases stand_any p hL x.1 with e | ⟨a', b', h⟩
  · rw [e, bd_s]
    refine ⟨R, .inr rfl, by omega, hw, fun a b => ⟨.inl, fun q => q.elim id fun ⟨a', b', _, _, _, h⟩ => ?_⟩⟩
    rw [stand_yes p hL h] at e; cases e
  · have uniq : ∀ a2 b2 : Nat, p.Stand L x.1 a2 b2 → a2 = a' ∧ b2 = b' := fun a2 b2 h2 => by
      have e1 := stand_yes p hL h
      rw [stand_yes p hL h2] at e1
      have := Option.some.inj (Option.some.inj e1)
      have q1 := congrArg Prod.fst this
      have q2 := congrArg Prod.snd this
      exact ⟨by have : (a2 : Int) = a' := q1; omega, by have : (b2 : Int) = b' := q2; omega⟩
    rw [stand_yes p hL h, bd_s]
    show ∃ R', (bIf (some (decide ((a' : Int) = (b' : Int)))) _ _ = _ ∨ bIf (some (decide ((a' : Int) = (b' : Int)))) _ _ = _) ∧ _
    rw [bIf_s]
    by_cases hab : a' = b'
    · rw [if_pos (by rw [decide_eq_true_eq]; omega)]
      refine ⟨R, .inr rfl, by omega, hw, fun a b => ⟨.inl, fun q => q.elim id fun ⟨a2, b2, _, _, lt, h2⟩ => ?_⟩⟩
      have := uniq a2 b2 h2; omega
    · rw [if_neg (by rw [decide_eq_true_eq]; omega)]
      have lt : a' < b' := by have := h.1; omega
      rcases List.eq_nil_or_concat R with e | ⟨ini, z, e⟩
      · subst e
        refine ⟨[[(a' : Int), (b' : Int), x.2.1, x.2.2]], .inl rfl, by simp, fun r m => ⟨_, _, _, _, List.mem_singleton.mp m⟩, fun a b => ?_⟩
        unfold RowOf
        constructor
        · rintro ⟨c, d, m⟩
          have := List.mem_singleton.mp m
          injection this with q1 q2; injection q2 with q2 q3
          exact .inr ⟨a', b', q1, q2, lt, h⟩
        · rintro (⟨c, d, m⟩ | ⟨a2, b2, q1, q2, _, h2⟩)
          · cases m
          · obtain ⟨w1, w2⟩ := uniq a2 b2 h2
            subst w1; subst w2; subst q1; subst q2
            exact ⟨_, _, List.mem_singleton.mpr rfl⟩
      · have e' : R = ini ++ [z] := by rw [e]; simp
        obtain ⟨u, v, c, d, hz⟩ := hw z (by rw [e']; exact List.mem_append_right _ (List.mem_singleton.mpr rfl))
        subst hz
        subst e'
        have ne : decide (ini ++ [[u, v, c, d]] = []) = false := decide_eq_false (by simp)
        have tst : bAnd (some (!decide (ini ++ [[u, v, c, d]] = []))) (bAnd (b2 (b2 ((some (-(1 : Int))).bind (fun j => atG (ini ++ [[u, v, c, d]]) j)) (some (0 : Int)) atG) ((some ((a' : Int), (b' : Int))).map (fun x => x.1)) (fun x y => some (decide (x = y)))) (b2 (b2 ((some (-(1 : Int))).bind (fun j => atG (ini ++ [[u, v, c, d]]) j)) (some (1 : Int)) atG) ((some ((a' : Int), (b' : Int))).map (fun x => x.2)) (fun x y => some (decide (x = y))))) = some (decide (u = a') && decide (v = b')) := by
          rw [ne, bd_s, atG_last]
          show bAnd (some true) (bAnd (some (decide (u = (a' : Int)))) (some (decide (v = (b' : Int))))) = _
          rw [bAnd_s, if_pos rfl, bAnd_s]
          cases decide (u = (a' : Int)) <;> rfl
        show ∃ R', (bIf (bAnd _ _) _ _ = _ ∨ bIf (bAnd _ _) _ _ = _) ∧ _
        rw [tst, bIf_s]
        by_cases huv : u = a' ∧ v = b'
        · obtain ⟨hu, hv⟩ := huv
          rw [decide_eq_true hu, decide_eq_true hv, if_pos (show (true && true) = true from rfl)]
          refine ⟨ini ++ [[u, v, c, x.2.2]], .inl ?_, by rw [List.length_append, List.length_append]; simp, fun r m => ?_, fun a b => ?_⟩
          · have := setT_last (ini := ini) (a := u) (b := v) (c := c) (d := d) (v := x.2.2)
            rw [bd_s] at this ⊢
            cases hx : ixN (ini ++ [[u, v, c, d]]).length (-(1 : Int)) with
            | none => rw [hx] at this; cases this
            | some j =>
              rw [hx, bd_s] at this
              rw [bd_s, this]; rfl
          · rcases List.mem_append.mp m with m | m
            · exact hw r (List.mem_append_left _ m)
            · exact ⟨_, _, _, _, List.mem_singleton.mp m⟩
          · unfold RowOf
            constructor
            · rintro ⟨c2, d2, m⟩
              rcases List.mem_append.mp m with m | m
              · exact .inl ⟨c2, d2, List.mem_append_left _ m⟩
              · have := List.mem_singleton.mp m
                injection this with q1 q2; injection q2 with q2 q3
                exact .inr ⟨a', b', q1.trans hu, q2.trans hv, lt, h⟩
            · rintro (⟨c2, d2, m⟩ | ⟨a2, b2, q1, q2, _, h2⟩)
              · rcases List.mem_append.mp m with m | m
                · exact ⟨c2, d2, List.mem_append_left _ m⟩
                · have := List.mem_singleton.mp m
                  injection this with q1 q2; injection q2 with q2 q3
                  subst q1; subst q2
                  exact ⟨c, x.2.2, List.mem_append_right _ (List.mem_singleton.mpr rfl)⟩
              · obtain ⟨w1, w2⟩ := uniq a2 b2 h2
                subst w1; subst w2
                refine ⟨c, x.2.2, List.mem_append_right _ (List.mem_singleton.mpr ?_)⟩
                rw [q1, q2, hu, hv]
        · rw [if_neg (by rw [Bool.and_eq_true, decide_eq_true_eq, decide_eq_true_eq]; exact huv)]
          refine ⟨ini ++ [[u, v, c, d]] ++ [[(a' : Int), (b' : Int), x.2.1, x.2.2]], .inl ?_, by rw [List.length_append]; exact Nat.le_refl _, fun r m => ?_, fun a b => ?_⟩
          · show (appG _ [(a' : Int), (b' : Int), x.2.1, x.2.2]).bind _ = _
            rw [appG_eq (by omega)]; rfl
          · rcases List.mem_append.mp m with m | m
            · exact hw r m
            · exact ⟨_, _, _, _, List.mem_singleton.mp m⟩
          · unfold RowOf
            constructor
            · rintro ⟨c2, d2, m⟩
              rcases List.mem_append.mp m with m | m
              · exact .inl ⟨c2, d2, m⟩
              · have := List.mem_singleton.mp m
                injection this with q1 q2; injection q2 with q2 q3
                exact .inr ⟨a', b', q1, q2, lt, h⟩
            · rintro (⟨c2, d2, m⟩ | ⟨a2, b2, q1, q2, _, h2⟩)
              · exact ⟨c2, d2, List.mem_append_left _ m⟩
              · obtain ⟨w1, w2⟩ := uniq a2 b2 h2
                subst w1; subst w2; subst q1; subst q2
                exact ⟨_, _, List.mem_append_right _ (List.mem_singleton.mpr rfl)⟩
theorem stops_run {L : Int} (hL : 0 ≤ L) : ∀ (S : List (Int × Int × Int)) (R : List (List Int)), R.length + S.length < 10000 → (∀ r, r ∈ R → ∃ a b c d, r = [a, b, c, d]) →
    ∃ R', forL (m_law_stops_b1 p.xs p.T L) S R = some (.dn R') ∧ (∀ r, r ∈ R' → ∃ a b c d, r = [a, b, c, d]) ∧ ∀ a b : Int, RowOf R' a b ↔ RowOf R a b ∨ ∃ x, x ∈ S ∧ ∃ a' b' : Nat, a = a' ∧ b = b' ∧ a' < b' ∧ p.Stand L x.1 a' b'
  | [], R, _, hw => ⟨R, rfl, hw, fun a b => ⟨.inl, fun q => q.elim id fun ⟨x, m, _⟩ => by cases m⟩⟩
  | x :: S, R, hl, hw => by
    rw [List.length_cons] at hl
    obtain ⟨R1, q1, q2, q3, q4⟩ := stops_step p hL R x (by omega) hw
    obtain ⟨R2, w1, w2, w3⟩ := stops_run hL S R1 (by omega) q3
    refine ⟨R2, by rw [q1.elim forL_nx forL_ct, w1], w2, fun a b => ?_⟩
    rw [w3, q4]
    constructor
    · rintro ((m | h) | ⟨y, m, h⟩)
      · exact .inl m
      · exact .inr ⟨x, List.mem_cons_self .., h⟩
      · exact .inr ⟨y, List.mem_cons_of_mem _ m, h⟩
    · rintro (m | ⟨y, m, h⟩)
      · exact .inl (.inl m)
      · rcases List.mem_cons.mp m with m | m
        · exact .inl (.inr (by rw [← m]; exact h))
        · exact .inr ⟨y, m, h⟩
theorem X_end {L : Int} {a : Nat} (h : a < p.n) {e : Int} (q : four p.T L (p.X a) e) : p.End L e := ⟨p.X a, X_mem p h, q⟩
theorem end_even {L e : Int} (hL : L % 2 = 0) (h : p.End L e) : e % 2 = 0 := by
  obtain ⟨x, m, q⟩ := h
  have := p.m4 x m
  have := p.t4
  unfold four at q
  omega
/-- the law's stops at a length are all stops -/
theorem stops_eq {L : Int} (hL : 0 ≤ L) (h2 : L % 2 = 0) : ∃ R, m_law_stops p.xs p.T L = some R ∧ (∀ r, r ∈ R → ∃ a b c d, r = [a, b, c, d]) ∧ ∀ a b : Int, RowOf R a b ↔ ∃ a' b' : Nat, a = a' ∧ b = b' ∧ p.Stop L a' b' := by
  obtain ⟨S, s1, s2, s3, s4⟩ := shifts_ok p L
  obtain ⟨R, r1, r2, r3⟩ := stops_run p hL S [] (by rw [List.length_nil]; omega) (fun r m => by cases m)
  refine ⟨R, by unfold m_law_stops; rw [s1, bd_s, r1]; rfl, r2, fun a b => ?_⟩
  rw [r3]
  constructor
  · rintro (⟨c, d, m⟩ | ⟨x, m, a', b', e1, e2, lt, h⟩)
    · cases m
    · exact ⟨a', b', e1, e2, stand_stop p lt h⟩
  · rintro ⟨a', b', e1, e2, h⟩
    right
    obtain ⟨lt, hb, hw, hf, hl⟩ := h
    have hst : p.Stop L a' b' := ⟨lt, hb, hw, hf, hl⟩
    obtain ⟨g1, g2⟩ := (wide_no p).mp hw
    have hf' : p.X (b' - 1) - p.X a' + 2 * p.T ≤ L := hf
    have hl' : 0 < a' → b' < p.n → L < p.X b' - p.X (a' - 1) - 2 * p.T := fun q1 q2 => hl _ (by
      unfold Pm.lst
      rw [if_neg (by omega)])
    have T0 := p.T0
    by_cases hc : b' < p.n → L + p.T - p.X b' < p.T - p.X a'
    · obtain ⟨l, r, m⟩ := s3 (p.T - p.X a') (X_end p (show a' < p.n by omega) (by right; left; omega))
      refine ⟨_, m, a', b', e1, e2, lt, stop_stand p hst (Int.le_refl _) (fun q => hc q) ?_ (fun q => ?_)⟩
      · show p.T - p.X a' ≤ _; omega
      · have := g1 q; show p.T - p.X a' < _; omega
    · have hbn : b' < p.n := by
        by_cases q : b' < p.n
        · exact q
        · exact absurd (fun q' => absurd q' q) hc
      have hc' : p.T - p.X a' ≤ L + p.T - p.X b' := by
        by_cases q : L + p.T - p.X b' < p.T - p.X a'
        · exact absurd (fun _ => q) hc
        · omega
      have k1 : p.End L (L + p.T - p.X b') := X_end p hbn (by right; right; right; omega)
      have k2 : p.End L (L - p.T - p.X (b' - 1)) := X_end p (show b' - 1 < p.n by omega) (by right; right; left; omega)
      have k3 := g2 hbn
      obtain ⟨g', l, r, w1, w2, w3, w4⟩ := s4 _ _ k1 k2 (by omega)
      have v1 := end_even p h2 k1
      have v2 := end_even p h2 w1
      have u1 := w4 _ k2 (by omega)
      refine ⟨_, w3, a', b', e1, e2, lt, stop_stand p hst ?_ (fun _ => ?_) ?_ (fun q => ?_)⟩
      · show _ ≤ (L + p.T - p.X b' + g') / 2; omega
      · show _ < (L + p.T - p.X b' + g') / 2; omega
      · show (L + p.T - p.X b' + g') / 2 ≤ _; omega
      · have k4 : p.End L (-p.T - p.X (a' - 1)) := X_end p (show a' - 1 < p.n by omega) (by left; omega)
        have := hl' q hbn
        have u2 := w4 _ k4 (by omega)
        show (L + p.T - p.X b' + g') / 2 < _; omega
theorem allZ_iff {n : Nat} {ts us : List (Int × Int)} (h1 : Ties n ts) (h2 : Ties n us) (h : ∀ t, t ∈ ts ↔ t ∈ us) : allZ (lab n ts) = allZ (lab n us) := by
  have : allZ (lab n ts) = true ↔ allZ (lab n us) = true := by
    unfold allZ
    rw [all_zero, all_zero, lab_whole h1, lab_whole h2, whole_same h]
  cases h3 : allZ (lab n ts) <;> cases h4 : allZ (lab n us) <;> simp_all
theorem law_sure {L : Int} (hL : 0 ≤ L) (h2 : L % 2 = 0) : m_law_is_sure p.xs p.T L = some (p.f L) := by
  have hn : p.n ≤ 8 := p.n1
  obtain ⟨R, r1, r2, r3⟩ := stops_eq p hL h2
  have pr : ∀ r, r ∈ R → ∃ a b : Int, r.getD 0 0 = a ∧ r.getD 1 0 = b ∧ RowOf R a b := fun r m => by
    obtain ⟨a, b, c, d, e⟩ := r2 r m
    refine ⟨a, b, by rw [e]; rfl, by rw [e]; rfl, c, d, by rw [← e]; exact m⟩
  unfold m_law_is_sure
  rw [r1, bd_s]
  have e_l : lcM (fun _ => some true) (fun row_1 : List Int => (b2 (atG row_1 (0 : Int)) (b2 (atG row_1 (1 : Int)) (some ()) (fun x y => some (x, y))) (fun x y => some (x, y))).map (fun t => (t.1, t.2.1))) R = some (R.map fun r => (r.getD 0 0, r.getD 1 0)) := by
    refine lcM_all (f' := fun r : List Int => (r.getD 0 0, r.getD 1 0)) R fun r m => ?_
    obtain ⟨a, b, c, d, e⟩ := r2 r m
    rw [e]; rfl
  rw [e_l, bd_s]
  have mt : ∀ t, t ∈ (R.map fun r => (r.getD 0 0, r.getD 1 0)) ↔ t ∈ p.tiesAt L := fun t => by
    rw [mem_ties, List.mem_map]
    constructor
    · rintro ⟨r, m, e⟩
      obtain ⟨a, b, q1, q2, q3⟩ := pr r m
      obtain ⟨a', b', w1, w2, w3⟩ := (r3 a b).mp q3
      refine ⟨a', b', ?_, w3⟩
      rw [← e, q1, q2, w1, w2]
    · rintro ⟨a', b', e, h⟩
      obtain ⟨c, d, m⟩ := (r3 a' b').mpr ⟨a', b', rfl, rfl, h⟩
      exact ⟨_, m, by rw [e]; rfl⟩
  have ht : Ties p.n (R.map fun r => (r.getD 0 0, r.getD 1 0)) := fun t m => ties_ok p L t ((mt t).mp m)
  have e_lab : m_law_labels (p.xs.length : Int) (R.map fun r => (r.getD 0 0, r.getD 1 0)) = some (lab p.n (R.map fun r => (r.getD 0 0, r.getD 1 0))) := llabG_eq ht (Nat.le_trans p.n1 (by decide))
  rw [e_lab, bd_s, b2_s, bd_s]
  exact congrArg some (allZ_iff ht (ties_ok p L) mt)
/-- between two critical lengths nothing changes -/
theorem f_same {L M : Int} (h : L ≤ M) (hx : ∀ x, p.Crit x → ¬ (L < x ∧ x ≤ M)) (h0 : 0 ≤ L) : p.f M = p.f L := by
  refine allZ_iff (ties_ok p M) (ties_ok p L) fun t => ?_
  rw [mem_ties, mem_ties]
  constructor
  · rintro ⟨a, b, e, h1, h2, h3, h4, h5⟩
    refine ⟨a, b, e, h1, h2, h3, ?_, fun l hl => by have := h5 l hl; omega⟩
    by_cases q : p.fst a b ≤ L
    · exact q
    · exact absurd ⟨by omega, h4⟩ (hx (p.fst a b) ⟨by omega, a, b, h1, h2, h3, .inl rfl⟩)
  · rintro ⟨a, b, e, h1, h2, h3, h4, h5⟩
    refine ⟨a, b, e, h1, h2, h3, by omega, fun l hl => ?_⟩
    have := h5 l hl
    by_cases q : M < l
    · exact q
    · exact absurd ⟨this, by omega⟩ (hx l ⟨by omega, a, b, h1, h2, h3, .inr hl⟩)
theorem crit_m4 {x : Int} (h : p.Crit x) : x % 4 = 0 := by
  obtain ⟨_, a, b, _, _, _, e⟩ := h
  have := X_m4 p (a := a); have := X_m4 p (a := b); have := X_m4 p (a := a - 1); have := X_m4 p (a := b - 1); have := p.t4
  rcases e with e | e
  · rw [e]; unfold Pm.fst; omega
  · unfold Pm.lst at e
    split at e
    · cases e
    · have := Option.some.inj e; omega
end
end K44
set_option Elab.async false
set_option linter.all false
set_option maxRecDepth 100000
/-! k44: the law's own list of ranges. -/
namespace K44
open L2 L2.T L2.M
section
variable (p : Pm)
def Pm.Cr (e : Int) : Prop := 0 < e ∧ ∃ x, x ∈ p.xs ∧ ∃ y, y ∈ p.xs ∧ (e = y - x + 2 * p.T ∨ e = y - x - 2 * p.T)
theorem T_bd : p.T.natAbs ≤ 10 ^ 60 := by have := p.T0; have := p.T1; have : p.T.natAbs ≤ 100 := by omega
                                          exact Nat.le_trans this (by decide)
theorem lcrit_eq : ∃ E : List Int, m_law_critical p.xs p.T = some E ∧ (0 :: E).Pairwise (· < ·) ∧ (∀ e, e ∈ E ↔ p.Cr e) ∧ E.length ≤ 200 := by
  have hn : p.xs.length ≤ 8 := p.n1
  have k1 : ∀ (s : List Int) (x : Int), s.Nodup → s.length < 16777216 → ∃ s', m_law_critical_b1 s x = some s' ∧ s'.Nodup ∧ s'.length ≤ s.length + 1 ∧ ∀ e, e ∈ s' ↔ e ∈ s ∨ (0 < x ∧ e = x) := fun s x h1 h2 => by
    unfold m_law_critical_b1
    rw [bIf_s]
    by_cases h : x > 0
    · rw [if_pos (decide_eq_true h)]
      obtain ⟨s', q1, q2, q3, q4⟩ := key_put (x := x) h1 h2
      refine ⟨s', by rw [bd_s, q1]; rfl, q2, q3, fun e => by rw [q4]; exact ⟨fun z => z.elim .inl fun z => .inr ⟨h, z⟩, fun z => z.elim .inl fun z => .inr z.2⟩⟩
    · rw [if_neg (by rw [decide_eq_true_eq]; exact h)]
      exact ⟨s, rfl, h1, by omega, fun e => ⟨.inl, fun z => z.elim id fun z => absurd z.1 h⟩⟩
  have k2 : ∀ (one : Int) (s : List Int) (two : Int), s.Nodup → s.length + 2 < 16777216 → ∃ s', m_law_critical_b2 p.T one s two = some s' ∧ s'.Nodup ∧ s'.length ≤ s.length + 2 ∧ ∀ e, e ∈ s' ↔ e ∈ s ∨ (0 < e ∧ (e = two - one + 2 * p.T ∨ e = two - one - 2 * p.T)) := fun one s two h1 h2 => by
    obtain ⟨s', q1, q2, q3, q4⟩ := keys_run (P := fun e => 0 < e) k1 [two - one + 2 * p.T, two - one - 2 * p.T] s h1 h2
    refine ⟨s', ?_, q2, q3, fun e => ?_⟩
    · unfold m_law_critical_b2
      rw [mulG_eq (by decide) (T_bd p)]
      show (forM m_law_critical_b1 [two - one + 2 * p.T, two - one - 2 * p.T] s).bind _ = _
      rw [q1]; rfl
    · rw [q4]
      simp only [List.mem_cons, List.not_mem_nil, or_false]
  have k3 : ∀ (s : List Int) (one : Int), s.Nodup → s.length + 2 * p.xs.length < 16777216 → ∃ s', m_law_critical_b3 p.xs p.T s one = some s' ∧ s'.Nodup ∧ s'.length ≤ s.length + 2 * p.xs.length ∧ ∀ e, e ∈ s' ↔ e ∈ s ∨ ∃ two, two ∈ p.xs ∧ (0 < e ∧ (e = two - one + 2 * p.T ∨ e = two - one - 2 * p.T)) := fun s one h1 h2 => by
    obtain ⟨s', q1, q2, q3, q4⟩ := keys_run2 (Q := fun two e => 0 < e ∧ (e = two - one + 2 * p.T ∨ e = two - one - 2 * p.T)) (k2 one) p.xs s h1 h2
    refine ⟨s', ?_, q2, q3, q4⟩
    unfold m_law_critical_b3
    rw [bd_s, q1]; rfl
  obtain ⟨K, q1, q2, q3, q4⟩ := keys_run2 (Q := fun one e => ∃ two, two ∈ p.xs ∧ (0 < e ∧ (e = two - one + 2 * p.T ∨ e = two - one - 2 * p.T))) k3 p.xs [] List.nodup_nil (by
    have : 2 * p.xs.length * p.xs.length ≤ 16 * 8 := Nat.mul_le_mul (by omega) hn
    rw [List.length_nil]; omega)
  have mK : ∀ e, e ∈ srtI K ↔ p.Cr e := fun e => by
    rw [srtI_mem, q4]
    constructor
    · rintro (m | ⟨x, mx, y, my, h0, h⟩)
      · cases m
      · exact ⟨h0, x, mx, y, my, h⟩
    · rintro ⟨h0, x, mx, y, my, h⟩
      exact .inr ⟨x, mx, y, my, h0, h⟩
  refine ⟨srtI K, ?_, List.pairwise_cons.mpr ⟨fun e m => ((mK e).mp m).1, srtI_lt q2⟩, mK, ?_⟩
  · unfold m_law_critical
    rw [bd_s, bd_s, q1]; rfl
  · rw [srtI_len]
    have : 2 * p.xs.length * p.xs.length ≤ 16 * 8 := Nat.mul_le_mul (by omega) hn
    rw [List.length_nil] at q3; omega
theorem cr_sm {e : Int} (h : p.Cr e) : e.natAbs ≤ 300000 := by
  obtain ⟨_, x, mx, y, my, h⟩ := h
  have := p.bd x mx; have := p.bd y my; have := p.T0; have := p.T1
  omega
theorem cr_m4 {e : Int} (h : p.Cr e) : e % 4 = 0 := by
  obtain ⟨_, x, mx, y, my, h⟩ := h
  have := p.m4 x mx; have := p.m4 y my; have := p.t4
  omega
theorem crit_cr {e : Int} (h : p.Crit e) : p.Cr e := by
  obtain ⟨h0, a, b, h1, h2, _, h⟩ := h
  refine ⟨h0, ?_⟩
  have h2' : b ≤ p.xs.length := h2
  rcases h with h | h
  · exact ⟨_, X_mem p (show a < p.n by omega), _, X_mem p (show b - 1 < p.n by omega), .inl h⟩
  · unfold Pm.lst at h
    split at h
    · cases h
    · rename_i hn
      have := Option.some.inj h
      exact ⟨_, X_mem p (show a - 1 < p.n by omega), _, X_mem p (show b < p.n by have : p.n = p.xs.length := rfl; omega), .inr this.symm⟩
theorem rat_eq {z : Int} (h : z.natAbs ≤ 300000) {bottom : Int} (hb : 4 * bottom = p.D) : (b2 (mulG z p.s) (b2 (mulG (4 : Int) bottom) (some ()) (fun x y => some (x, y))) (fun x y => some (x, y))).bind (fun t => m_law_ratio t.1 t.2.1) = some (p.q z) := by
  have s0 := p.s0; have s1 := p.s1; have D0 := p.D0; have D1 := p.D1
  have bs : p.s.natAbs ≤ 10 ^ 60 := Nat.le_trans (show p.s.natAbs ≤ 1000 by omega) (by decide)
  have bb : bottom.natAbs ≤ 10 ^ 60 := Nat.le_trans (show bottom.natAbs ≤ 1000 by omega) (by decide)
  rw [mulG_eq (Nat.le_trans h (by decide)) bs, mulG_eq (by decide) bb, hb]
  show lratG (z * p.s) p.D = _
  rw [lratG_eq D0 (Nat.le_trans (show p.D.natAbs ≤ 1000 by omega) (by decide))]
  rfl
theorem law_step {bottom tread : Int} (hb : 4 * bottom = p.D) (ht : 4 * tread = p.T) {E : List Int} (hp : (0 :: E).Pairwise (· < ·)) (hE : ∀ e, e ∈ E ↔ p.Cr e) (hl : E.length ≤ 200) {i : Nat} {c : Int} (hc : (0 :: E)[i]? = some c) :
    m_law_b1 bottom tread p.s p.xs (0 :: E) ((sgO (sg p.f ((0 :: E).take i)) (some c)).map p.qe) (i : Int) = some (.nx ((sgO (sgS p.f (sg p.f ((0 :: E).take i)) c) ((0 :: E)[i + 1]?)).map p.qe)) := by
  have c4 : ∀ e, e ∈ 0 :: E → e % 4 = 0 ∧ 0 ≤ e ∧ e.natAbs ≤ 300000 := fun e m => by
    rcases List.mem_cons.mp m with m | m
    · subst m; decide
    · have := (hE e).mp m
      exact ⟨cr_m4 p this, Int.le_of_lt this.1, cr_sm p this⟩
  have hl' : (0 :: E).length ≤ 201 := by rw [List.length_cons]; omega
  generalize (0 :: E) = F at *
  have hi : i < F.length := (List.getElem?_eq_some_iff.mp hc).1
  have mc : c ∈ F := List.mem_of_getElem? hc
  obtain ⟨g4, g0, gs⟩ := c4 c mc
  have T0 := p.T0; have T1 := p.T1
  have bt : tread.natAbs ≤ 10 ^ 60 := Nat.le_trans (show tread.natAbs ≤ 1000 by omega) (by decide)
  have ak : atG F (i : Int) = some c := by rw [atG_get]; exact hc
  have e_s2 : (b2 (some p.xs) (b2 (mulG (4 : Int) tread) (b2 (b2 (atG F (i : Int)) (some (2 : Int)) (fun x y => some (x + y))) (some ()) (fun x y => some (x, y))) (fun x y => some (x, y))) (fun x y => some (x, y))).bind (fun t => m_law_is_sure t.1 t.2.1 t.2.2.1) = some (p.f c) := by
    rw [ak, mulG_eq (by decide) bt, ht]
    show m_law_is_sure p.xs p.T (c + 2) = _
    rw [law_sure p (by omega) (by omega)]
    congr 1
    refine f_same p (by omega) (fun x hx => ?_) g0
    have := crit_m4 p hx
    omega
  have e_s0 : (b2 (some p.xs) (b2 (mulG (4 : Int) tread) (b2 (atG F (i : Int)) (some ()) (fun x y => some (x, y))) (fun x y => some (x, y))) (fun x y => some (x, y))).bind (fun t => m_law_is_sure t.1 t.2.1 t.2.2.1) = some (p.f c) := by
    rw [ak, mulG_eq (by decide) bt, ht]
    show m_law_is_sure p.xs p.T c = _
    exact law_sure p g0 (by omega)
  have hend : (bIf (some (decide (((i : Int) + (1 : Int)) < (F.length : Int)))) (((b2 (b2 (atG F ((i : Int) + (1 : Int))) (some p.s) mulG) (b2 (mulG (4 : Int) bottom) (some ()) (fun x y => some (x, y))) (fun x y => some (x, y))).bind (fun t => m_law_ratio t.1 t.2.1)).map some) (some none)) = some ((F[i + 1]?).map p.q) := by
    rw [bIf_s]
    by_cases h1 : i + 1 < F.length
    · rw [if_pos (by rw [decide_eq_true_eq]; omega), show ((i : Int) + 1) = ((i + 1 : Nat) : Int) by omega, atG_get, List.getElem?_eq_getElem h1, b2_s, rat_eq p (c4 _ (List.getElem_mem h1)).2.2 hb]
      rfl
    · rw [if_neg (by rw [decide_eq_true_eq]; omega), List.getElem?_eq_none (by omega)]; rfl
  have slen : (sgO (sg p.f (F.take i)) (some c)).length ≤ 300 := by
    have : ∀ (Z : List Int) (st : Sg), (Z.foldl (sgS p.f) st).1.length ≤ st.1.length + Z.length := by
      intro Z
      induction Z with
      | nil => intro st; exact Nat.le_refl _
      | cons z Z ih =>
        intro st
        rw [List.foldl_cons, List.length_cons]
        have := ih (sgS p.f st z)
        have : (sgS p.f st z).1.length ≤ st.1.length + 1 := by
          unfold sgS
          split
          · show st.1.length ≤ _; omega
          · cases st.2 with
            | none => show st.1.length ≤ _; omega
            | some b => show (st.1 ++ [_]).length ≤ _; rw [List.length_append, List.length_singleton]; omega
        omega
    have h1 := this (F.take i) ([], none)
    rw [List.length_take, List.length_nil] at h1
    unfold sgO
    rw [List.length_append]
    have : (sg p.f (F.take i)).1.length ≤ 201 := by unfold sg; omega
    cases (sg p.f (F.take i)).2 <;> simp <;> omega
  unfold m_law_b1
  rw [e_s2, bd_s, e_s0, b2_s]
  have e_ne : bAnd (some (decide ((i : Int) > (0 : Int)))) (some (!decide (p.f c = p.f c))) = some false := by
    rw [decide_eq_true (show p.f c = p.f c from rfl), bAnd_s]
    split <;> rfl
  rw [e_ne, bIf_s, if_neg (by decide), ak, b2_s, rat_eq p gs hb, bd_s, hend, bd_s]
  by_cases hf : p.f c = true
  · have hne : ∀ d, d ∈ F.take i → d ≠ c := fun d m => by
      obtain ⟨j, hj, e⟩ := List.getElem_of_mem m
      rw [List.getElem_take] at e
      rw [List.length_take] at hj
      have h2 := List.pairwise_iff_getElem.mp hp j i (by omega) hi (by omega)
      have h3 := (List.getElem?_eq_some_iff.mp hc).2
      omega
    rw [hf, bAnd_s, if_pos rfl]
    rcases merge_yes p (nx := F[i + 1]?) hf hne with ⟨ini, b, e1, e2⟩ | ⟨e0, e2⟩
    · rw [e2, e1]
      have : decide (ini ++ [(b, some (p.q c))] = []) = false := decide_eq_false (by simp)
      rw [this, atG_last]
      show bIf (bAnd (some (!false)) (some (decide (some (p.q c) = some (p.q c))))) _ _ = _
      rw [bAnd_s, if_pos (show (!false) = true from rfl), decide_eq_true rfl, bIf_s, if_pos rfl]
      show (setG _ _ _).bind _ = _
      rw [setG_last]
      rfl
    · rw [e2]
      have tst : bAnd (some (!decide ((sgO (sg p.f (F.take i)) (some c)).map p.qe = []))) (b2 ((atG ((sgO (sg p.f (F.take i)) (some c)).map p.qe) (-(1 : Int))).map (fun x => x.2)) (some (some (p.q c))) (fun x y => some (decide (x = y)))) = some false := by
        rcases e0 with e0 | ⟨ini, b, e, e0, ne⟩
        · rw [e0]; rfl
        · rw [e0]
          have : decide (ini ++ [(b, e)] = []) = false := decide_eq_false (by simp)
          rw [this, atG_last]
          show bAnd (some (!false)) (some (decide (e = some (p.q c)))) = _
          rw [bAnd_s, if_pos (show (!false) = true from rfl), decide_eq_false ne]
      rw [tst, bIf_s, if_neg (by decide), bIf_s, if_pos rfl, bd_s, appG_eq (by rw [List.length_map]; omega)]
      rfl
  · have hf' : p.f c = false := by simpa using hf
    rw [hf', bAnd_s, if_neg (by decide), bIf_s, if_neg (by decide), bIf_s, if_neg (by decide), merge_no hf']
theorem law_end {bottom tread : Int} (hb : 4 * bottom = p.D) (ht : 4 * tread = p.T) : ∃ (E : List Int) (told : List ((Int × Int) × Option (Int × Int))), m_law_critical p.xs p.T = some E ∧ E.length ≤ 200 ∧ m_sure_lengths p.cart = some told ∧ forL (m_law_b1 bottom tread p.s p.xs (0 :: E)) (rgL 0 ((0 :: E).length : Int)) [] = some (.dn told) := by
  obtain ⟨E, e1, e2, e3, e4⟩ := lcrit_eq p
  obtain ⟨C, c1, c2, c3⟩ := sure_eq p
  refine ⟨E, _, e1, e4, c3, ?_⟩
  have thin : sg p.f (0 :: E) = sg p.f (0 :: C) := sg_fewer e2 c1 (fun c m => (e3 c).mpr (crit_cr p ((c2 c).mp m))) fun x e mx me lt h => by
    have x0 : 0 ≤ x := by
      rcases List.mem_cons.mp mx with m | m
      · omega
      · exact Int.le_of_lt ((e3 x).mp m).1
    exact f_same p (Int.le_of_lt lt) (fun y hy => h y ((c2 y).mpr hy)) x0
  rw [← thin]
  obtain ⟨s', w1, w2⟩ := forL_inv (f := m_law_b1 bottom tread p.s p.xs (0 :: E)) (fun zs s => s = (sgO (sg p.f ((0 :: E).take zs.length)) ((0 :: E)[zs.length]?)).map p.qe) [] (rgL 0 ((0 :: E).length : Int)) [] (by
      show [] = (sgO (sg p.f []) _).map p.qe
      rfl) fun zs x s hI ⟨r, hr⟩ => by
    obtain ⟨g1, g2⟩ := rgL_split hr
    rw [List.nil_append] at hI
    have hc : (0 :: E)[zs.length]? = some (0 :: E)[zs.length] := List.getElem?_eq_getElem g1
    rw [hc] at hI
    refine ⟨_, .inl (by rw [g2, hI]; exact law_step p hb ht e2 e3 e4 hc), ?_⟩
    rw [List.nil_append, List.length_append, List.length_singleton]
    have : (0 :: E).take (zs.length + 1) = (0 :: E).take zs.length ++ [(0 :: E)[zs.length]] := by
      rw [List.take_add_one, hc]; rfl
    rw [this, sg_snoc]
  rw [w1, w2, List.nil_append, rgL_len]
  have : (((0 :: E).length : Int) - 0).toNat = (0 :: E).length := by omega
  rw [this, List.take_length, List.getElem?_eq_none (Nat.le_refl _)]
end
end K44
set_option Elab.async false
set_option linter.all false
set_option maxRecDepth 100000
/-! k44: the cart. -/
namespace K44
open L2 L2.T L2.M
theorem whole_no (x : Int) : m_is_whole x none none = some true := rfl
theorem whole_one {x : Int} (h : 0 < x) : m_is_whole x (some 1) none = some true := by
  unfold m_is_whole
  show bIf (bAnd (some true) (some (decide (x < 1)))) (some false) (some true) = _
  rw [decide_eq_false (by omega)]
  rfl
theorem ratio_nf {z d : Int} (h : 0 < d) : m_is_ratio (nf z d) = some true := by
  unfold m_is_ratio
  rw [whole_no, whole_one (nf_pos h), nf_cop h]
  rfl
theorem small_nf {z d : Int} (h : 0 < d) (hz : z.natAbs ≤ 10 ^ 12) (hd : d.natAbs ≤ 10 ^ 12) : m_is_small (nf z d) = some true := by
  have n := nf_le (z := z) h
  have hp := nf_pos (z := z) h
  unfold m_is_small
  rw [ratio_nf h, bAnd_s, if_pos rfl, bAnd_s, decide_eq_true (show -(10 ^ 12 : Int) ≤ (nf z d).1 by omega), if_pos rfl, decide_eq_true (show (nf z d).1 ≤ (10 ^ 12 : Int) by omega), bAnd_s, if_pos rfl, decide_eq_true (show (nf z d).2 ≤ (10 ^ 12 : Int) by omega)]
section
variable (p : Pm)
theorem q_small {z : Int} (h : z.natAbs ≤ 100000) : m_is_small (p.q z) = some true := by
  have s0 := p.s0; have s1 := p.s1; have D0 := p.D0; have D1 := p.D1
  refine small_nf D0 ?_ (Nat.le_trans (show p.D.natAbs ≤ 12 by omega) (by decide))
  rw [Int.natAbs_mul]
  exact Nat.le_trans (Nat.mul_le_mul h (show p.s.natAbs ≤ 1000 by omega)) (by decide)
theorem cart_eq : m_Cart___init__ (p.xs.map p.q) (p.q p.T) = some p.cart := by
  have hn : p.xs.length ≤ 8 := p.n1
  have n0 := p.n0
  have T0 := p.T0; have T1 := p.T1
  unfold m_Cart___init__
  rw [List.length_map, decide_eq_true (show (1 : Int) ≤ (p.xs.length : Int) by omega), bAnd_s, if_pos rfl, decide_eq_true (show (p.xs.length : Int) ≤ 8 by omega)]
  show bIf (some false) _ _ = _
  rw [bIf_s, if_neg (by decide), bd_s]
  obtain ⟨s', e1, _⟩ := forM_inv (f := m_Cart___init___b1 (p.xs.map p.q)) (fun _ _ => True) [] (enL (p.xs.map p.q)) () trivial fun zs x s _ ⟨r, hr⟩ => by
    obtain ⟨g1, g2⟩ := enL_take hr
    rw [List.getElem?_map] at g1
    cases hc : p.xs[zs.length]? with
    | none => rw [hc] at g1; cases g1
    | some c =>
      rw [hc] at g1
      have hx : p.q c = x.2 := Option.some.inj g1
      have hi := (List.getElem?_eq_some_iff.mp hc).1
      have mc := List.mem_of_getElem? hc
      refine ⟨(), ?_, trivial⟩
      unfold m_Cart___init___b1
      rw [← hx, g2, q_small p (p.bd c mc)]
      show bIf (some false) _ _ = _
      rw [bIf_s, if_neg (by decide), bAnd_s]
      by_cases h0 : zs.length = 0
      · rw [if_neg (by rw [decide_eq_true_eq]; omega), bIf_s, if_neg (by decide)]
      · rw [if_pos (by rw [decide_eq_true_eq]; omega), show ((zs.length : Int) - 1) = ((zs.length - 1 : Nat) : Int) by omega, atG_get, List.getElem?_map, List.getElem?_eq_getElem (show zs.length - 1 < p.xs.length by omega)]
        show bIf (b2 (m_compare (p.q p.xs[zs.length - 1]) (p.q c)) _ _) _ _ = _
        have lt := List.pairwise_iff_getElem.mp p.asc (zs.length - 1) zs.length (by omega) hi (by omega)
        have ec := (List.getElem?_eq_some_iff.mp hc).2
        rw [q_cmp p (Nat.le_trans (p.bd _ (List.getElem_mem _)) (by decide)) (Nat.le_trans (p.bd c mc) (by decide)), if_pos (by rw [← ec]; exact lt)]
        rfl
  rw [e1, bd_s]
  have w : m_is_weight (p.q p.T) = some true := by
    unfold m_is_weight
    rw [q_small p (show p.T.natAbs ≤ 100000 by omega), bAnd_s, if_pos rfl]
    congr 1
    rw [decide_eq_true_eq]
    have hp := nf_pos (z := p.T * p.s) p.D0
    have hc := nf_cross (z := p.T * p.s) p.D0
    have : 0 ≤ p.T * p.s * (nf (p.T * p.s) p.D).2 := Int.mul_nonneg (Int.mul_nonneg T0 (Int.le_of_lt p.s0)) (Int.le_of_lt hp)
    rw [← hc] at this
    exact Int.le_of_mul_le_mul_right (by rw [Int.zero_mul]; exact this) p.D0
  rw [w]
  rfl
theorem fourth {x bottom : Int} (hb : 4 * bottom = p.D) : nf (x * p.s) bottom = p.q (4 * x) := by
  have D0 := p.D0
  refine nf_of (by omega) D0 ?_
  rw [← hb]
  simp only [Int.mul_assoc, Int.mul_comm, Int.mul_left_comm]
end
/-! ### digits -/
theorem digits_ok (cell : Int) : ∃ ds, m_law_digits cell 13 = some ds ∧ ds.length = 13 := by
  unfold m_law_digits
  rw [bd_s, bd_s]
  have pw : powG (10 : Int) (18 : Int) = some (10 ^ 18) := by rfl
  rw [pw, b2_s, bIf_s]
  by_cases h : (if cell < 0 then -cell else cell) ≥ 10 ^ 18
  · rw [if_pos (decide_eq_true h), rgG_eq (by decide) (by decide) (by decide) (by decide), bd_s]
    obtain ⟨s', e1, e2⟩ := forM_inv (f := m_law_digits_b1) (fun zs s => s.2.length = zs.length) [] (rgL 0 13) ((if cell < 0 then -cell else cell), []) rfl fun zs x s hI ⟨r, hr⟩ => by
      have hl := congrArg List.length hr
      rw [rgL_len, List.length_append] at hl
      rw [List.nil_append] at hI
      unfold m_law_digits_b1
      rw [bd_s, appG_eq (by rw [hI]; simp at hl; omega), bd_s, divG_eq (by decide) (by decide), bd_s]
      exact ⟨_, rfl, by rw [List.nil_append, List.length_append, List.length_append, hI]; rfl⟩
    rw [e1]
    exact ⟨_, rfl, e2⟩
  · have hc : cell.natAbs < 10 ^ 18 := by
      split at h <;> omega
    rw [if_neg (by rw [decide_eq_true_eq]; exact h), mulG_eq (Nat.le_trans (Nat.le_of_lt hc) (by decide)) (by decide), b2_s, b2_s, bd_s, b2_s, modG_eq (by decide), bd_s, rgG_eq (by decide) (by decide) (by decide) (by decide), bd_s]
    obtain ⟨s', e1, e2, _⟩ := forM_inv (f := m_law_digits_b2) (fun zs s => s.1.length = zs.length ∧ s.2.natAbs ≤ 2147483647) [] (rgL 0 13) ([], (cell * 48271 + 11) % 2147483647) ⟨rfl, by show ((cell * 48271 + 11) % 2147483647).natAbs ≤ _; omega⟩ fun zs x s hI ⟨r, hr⟩ => by
      have hl := congrArg List.length hr
      rw [rgL_len, List.length_append] at hl
      have mx : x ∈ rgL 0 13 := by rw [hr]; exact List.mem_append_right _ (List.mem_cons_self ..)
      have hx := mem_rgL.mp mx
      rw [List.nil_append] at hI
      obtain ⟨i1, i2⟩ := hI
      unfold m_law_digits_b2
      rw [mulG_eq (Nat.le_trans i2 (by decide)) (by decide), mulG_eq (by decide) (Nat.le_trans (show x.natAbs ≤ 13 by omega) (by decide)), b2_s, b2_s, b2_s, bd_s, b2_s, modG_eq (by decide), bd_s, divG_eq (by decide) (by decide), bd_s, appG_eq (by rw [i1]; simp at hl; omega)]
      exact ⟨_, rfl, by rw [List.nil_append, List.length_append, List.length_append, i1]; rfl, by show ((s.2 * 69621 + 7919 * x + 104729) % 2147483629).natAbs ≤ _; omega⟩
    rw [e1]
    exact ⟨_, rfl, e2⟩
theorem cell_ok (ns : List Int) : ∃ c, m_law_cell ns 0 = some c := by
  unfold m_law_cell
  rw [bIf_s]
  by_cases h : 0 < ns.length
  · rw [if_pos (by rw [decide_eq_true_eq]; omega), b2_s, show atG ns (0 : Int) = some ns[0] from atG_pos h]
    exact ⟨_, rfl⟩
  · rw [if_neg (by rw [decide_eq_true_eq]; omega)]
    exact ⟨_, rfl⟩
/-! ### axles -/
theorem axles_ok {ds : List Int} (hd : ds.length = 13) {many t : Int} (h1 : 1 ≤ many) (h2 : many ≤ 8) (t0 : 0 ≤ t) (t3 : t ≤ 3) : ∃ xs, m_law_axles ds 3 many (2 * t + 1) (2 * t + 2) = some xs ∧ (xs.length : Int) = many ∧ xs.Pairwise (· < ·) ∧ ∀ x, x ∈ xs → -10 ≤ x ∧ x ≤ 200 := by
  have ad : ∀ i : Nat, i < 13 → ∃ d, atG ds (i : Int) = some d := fun i hi => ⟨_, atG_pos (by omega)⟩
  obtain ⟨d3, a3⟩ := ad 3 (by decide)
  unfold m_law_axles
  rw [show (atG ds (3 : Int)) = some d3 from a3, b2_s, bd_s, b2_s, modG_eq (by decide), b2_s, bd_s, bd_s, rgG_eq (by decide) (by decide) (by omega) (by omega), bd_s]
  obtain ⟨s', e1, e2, e3, e4, e5⟩ := forM_inv (f := m_law_axles_b1 ds 3 (2 * t + 1) (2 * t + 2)) (fun zs s => s.2.length = zs.length ∧ s.2.Pairwise (· < ·) ∧ (∀ x, x ∈ s.2 → -10 ≤ x ∧ x < s.1) ∧ (-10 ≤ s.1 ∧ s.1 ≤ 10 + 14 * zs.length)) [] (rgL 0 many) (d3 % 21 - 10, []) ⟨rfl, List.Pairwise.nil, (fun x m => by cases m), by show -10 ≤ d3 % 21 - 10; omega, by show d3 % 21 - 10 ≤ _; simp; omega⟩ fun zs x s hI ⟨r, hr⟩ => by
    have hl := congrArg List.length hr
    rw [rgL_len, List.length_append, List.length_cons] at hl
    have mx : x ∈ rgL 0 many := by rw [hr]; exact List.mem_append_right _ (List.mem_cons_self ..)
    have hx := mem_rgL.mp mx
    rw [List.nil_append] at hI
    obtain ⟨i1, i2, i3, i4, i5⟩ := hI
    obtain ⟨d, ha⟩ := ad (4 + x.toNat) (by omega)
    have ei : ((3 + (1 : Int)) + x) = ((4 + x.toNat : Nat) : Int) := by omega
    unfold m_law_axles_b1
    rw [bd_s, appG_eq (by omega), bd_s, ei, ha, b2_s, bd_s, b2_s, modG_eq (by omega), b2_s, bd_s]
    have m1 := Int.emod_nonneg d (show (2 * t + 2) ≠ 0 by omega)
    have m2 := Int.emod_lt_of_pos d (show 0 < 2 * t + 2 by omega)
    refine ⟨_, rfl, by rw [List.nil_append, List.length_append, List.length_append, i1]; rfl, ?_, fun y m => ?_, ?_, ?_⟩
    · show (s.2 ++ [s.1]).Pairwise (· < ·)
      rw [List.pairwise_append]
      refine ⟨i2, List.pairwise_singleton .., fun a ma b mb => ?_⟩
      rw [List.mem_singleton] at mb
      rw [mb]; exact (i3 a ma).2
    · show -10 ≤ y ∧ y < s.1 + (2 * t + 1 + d % (2 * t + 2))
      rcases List.mem_append.mp m with m | m
      · have := i3 y m; omega
      · rw [List.mem_singleton] at m; omega
    · show -10 ≤ s.1 + (2 * t + 1 + d % (2 * t + 2)); omega
    · show s.1 + (2 * t + 1 + d % (2 * t + 2)) ≤ 10 + 14 * (([] ++ zs ++ [x] : List Int).length : Int)
      rw [List.nil_append, List.length_append, List.length_singleton]
      omega
  rw [e1]
  rw [List.nil_append, rgL_len] at e2 e5
  exact ⟨s'.2, rfl, by omega, e3, fun x m => by have := e4 x m; omega⟩
end K44
set_option Elab.async false
set_option linter.all false
set_option maxRecDepth 100000
/-! k44: the law. -/
namespace K44
open L2 L2.T L2.M
theorem bx {α : Type} {m : Option α} {f : α → Option Bool} (P : α → Prop) (h : ∃ x, m = some x ∧ P x) (k : ∀ x, P x → f x = some true) : m.bind f = some true := by
  obtain ⟨x, e, q⟩ := h
  rw [e, bd_s]; exact k x q
theorem law_true : ∀ ns : List Int, ns.length ≤ 63 → m_law ns = some true := by
  intro ns hns
  unfold m_law
  refine bx (fun ds => ds.length = 13) ?_ fun ds hd => ?_
  · obtain ⟨c, hc⟩ := cell_ok ns
    rw [hc]
    exact digits_ok c
  have ad : ∀ i : Nat, i < 13 → ∃ d, atG ds (i : Int) = some d := fun i hi => ⟨_, atG_pos (by omega)⟩
  obtain ⟨d0, a0⟩ := ad 0 (by decide)
  obtain ⟨d1, a1⟩ := ad 1 (by decide)
  obtain ⟨d2, a2⟩ := ad 2 (by decide)
  obtain ⟨d12, a12⟩ := ad 12 (by decide)
  have a0 : atG ds (0 : Int) = some d0 := a0
  have a1 : atG ds (1 : Int) = some d1 := a1
  have a2 : atG ds (2 : Int) = some d2 := a2
  have a12 : atG ds (12 : Int) = some d12 := a12
  refine bx (fun m => 1 ≤ m ∧ m ≤ 6) ?_ fun many hm => ?_
  · rw [a0, b2_s, bd_s, b2_s, modG_eq (by decide), b2_s]
    exact ⟨_, rfl, by omega⟩
  refine bx (fun m => 1 ≤ m ∧ m ≤ 8) ?_ fun j hj => ?_
  · rw [a0, a1, b2_s, bd_s, b2_s, divG_eq (by decide) (by decide), b2_s, modG_eq (by decide), b2_s, bIf_s]
    by_cases h : d0 / 6 % 8 = 0
    · rw [if_pos (by rw [decide_eq_true_eq]; exact h), b2_s, bd_s, b2_s, divG_eq (by decide) (by decide), b2_s, modG_eq (by decide), b2_s, bd_s]
      exact ⟨_, rfl, by omega⟩
    · rw [if_neg (by rw [decide_eq_true_eq]; exact h)]
      exact ⟨_, rfl, by omega⟩
  refine bx (fun b => 1 ≤ b ∧ b ≤ 3) ?_ fun bottom hb => ?_
  · rw [a1, b2_s, bd_s, b2_s, modG_eq (by decide), b2_s]
    exact ⟨_, rfl, by omega⟩
  refine bx (fun t => 0 ≤ t ∧ t ≤ 3) ?_ fun t ht => ?_
  · rw [a2, b2_s, bd_s, b2_s, modG_eq (by decide)]
    exact ⟨_, rfl, by omega⟩
  have m2t : mulG (2 : Int) t = some (2 * t) := mulG_eq (by decide) (Nat.le_trans (show t.natAbs ≤ 3 by omega) (by decide))
  refine bx (fun xs => (xs.length : Int) = j ∧ xs.Pairwise (· < ·) ∧ ∀ x, x ∈ xs → -10 ≤ x ∧ x ≤ 200) ?_ fun xs hx => ?_
  · rw [m2t]
    exact axles_ok hd hj.1 hj.2 ht.1 ht.2
  refine bx (fun ys => (ys.length : Int) = j ∧ ys.Pairwise (· < ·) ∧ ∀ x, x ∈ ys → x.natAbs ≤ 10000) ?_ fun ys hy => ?_
  · obtain ⟨x1, x2, x3⟩ := hx
    have keep : ∃ ys, some xs = some ys ∧ (ys.length : Int) = j ∧ ys.Pairwise (· < ·) ∧ ∀ x, x ∈ ys → x.natAbs ≤ 10000 := ⟨xs, rfl, x1, x2, fun x m => by have := x3 x m; omega⟩
    rw [a2, a12, bAnd_s]
    by_cases g1 : j > 1
    · rw [if_pos (decide_eq_true g1), bAnd_s]
      by_cases g2 : t > 0
      · rw [if_pos (decide_eq_true g2), b2_s, bd_s, b2_s, divG_eq (by decide) (by decide), b2_s, modG_eq (by decide), b2_s, bIf_s]
        by_cases g3 : d2 / 4 % 8 = 0
        · rw [if_pos (decide_eq_true g3), b2_s, bd_s, b2_s, modG_eq (by omega), b2_s, bd_s]
          have r1 := Int.emod_nonneg d12 (show j - 1 ≠ 0 by omega)
          have r2 := Int.emod_lt_of_pos d12 (show 0 < j - 1 by omega)
          generalize hk : d12 % (j - 1) = k at *
          have hi : k.toNat + 1 < xs.length := by omega
          have e1 : atG xs (1 + k) = some xs[k.toNat + 1] := by rw [show (1 + k : Int) = ((k.toNat + 1 : Nat) : Int) by omega]; exact atG_pos hi
          have e2 : atG xs (1 + k - 1) = some xs[k.toNat] := by rw [show (1 + k - 1 : Int) = ((k.toNat : Nat) : Int) by omega]; exact atG_pos (by omega)
          rw [e1, e2]
          simp only [b2_s, bd_s]
          rw [divG_eq (by decide) (by decide), m2t]
          simp only [b2_s, bd_s]
          rw [modG_eq (by omega)]
          simp only [b2_s, bd_s]
          have v1 := Int.emod_nonneg (d12 / 7) (show 2 * t ≠ 0 by omega)
          have v2 := Int.emod_lt_of_pos (d12 / 7) (show 0 < 2 * t by omega)
          have pw := List.pairwise_iff_getElem.mp x2
          have gap : xs[k.toNat] < xs[k.toNat + 1] := pw _ _ (by omega) hi (by omega)
          have low : ∀ x, x ∈ xs → x < xs[k.toNat + 1] → x ≤ xs[k.toNat] := fun x m lt => by
            obtain ⟨i, hi2, e⟩ := List.getElem_of_mem m
            rcases Nat.lt_trichotomy i k.toNat with h | h | h
            · have := pw i k.toNat hi2 (by omega) h; omega
            · subst h; omega
            · rcases Nat.lt_or_ge (k.toNat + 1) i with h3 | h3
              · have := pw (k.toNat + 1) i hi hi2 h3; omega
              · have : i = k.toNat + 1 := by omega
                subst this; omega
          have bS := x3 _ (List.getElem_mem hi)
          have bS' := x3 _ (List.getElem_mem (show k.toNat < xs.length by omega))
          generalize hS : xs[k.toNat + 1] = S at *
          generalize hS' : xs[k.toNat] = S' at *
          generalize hv : d12 / 7 % (2 * t) = v at *
          rw [lcM_all (f' := fun x => if S ≤ x then x - (S - S' - 1 - v) else x) xs fun x m => by
            rw [bIf_s]
            by_cases q : x ≥ S
            · rw [if_pos (decide_eq_true q), if_pos q]
            · rw [if_neg (by rw [decide_eq_true_eq]; exact q), if_neg (show ¬ S ≤ x from q)], bd_s]
          refine ⟨_, rfl, by rw [List.length_map]; exact x1, ?_, fun y m => ?_⟩
          · rw [List.pairwise_map]
            refine x2.imp_of_mem fun {a b} ma mb hab => ?_
            by_cases qa : S ≤ a
            · rw [if_pos qa, if_pos (by omega)]; omega
            · rw [if_neg qa]
              have := low a ma (by omega)
              by_cases qb : S ≤ b
              · rw [if_pos qb]; omega
              · rw [if_neg qb]; exact hab
          · obtain ⟨x, mx, e⟩ := List.mem_map.mp m
            have := x3 x mx
            by_cases q : S ≤ x
            · rw [if_pos q] at e; omega
            · rw [if_neg q] at e; omega
        · rw [if_neg (by rw [decide_eq_true_eq]; exact g3)]; exact keep
      · rw [if_neg (by rw [decide_eq_true_eq]; exact g2), bIf_s, if_neg (by decide)]; exact keep
    · rw [if_neg (by rw [decide_eq_true_eq]; exact g1), bIf_s, if_neg (by decide)]; exact keep
  refine bx (fun s => s = 1 ∨ s = 1000) ?_ fun s hs => ?_
  · rw [a2, b2_s, bd_s, b2_s, divG_eq (by decide) (by decide), b2_s, modG_eq (by decide), b2_s]
    have r1 := Int.emod_nonneg (d2 / 32) (show (2 : Int) ≠ 0 by decide)
    have r2 := Int.emod_lt_of_pos (d2 / 32) (show (0 : Int) < 2 by decide)
    by_cases h : d2 / 32 % 2 = 0
    · rw [h]; exact ⟨1, rfl, .inl rfl⟩
    · rw [show d2 / 32 % 2 = 1 by omega]; exact ⟨1000, rfl, .inr rfl⟩
  obtain ⟨y1, y2, y3⟩ := hy
  let p : Pm := ⟨s, 4 * bottom, 4 * t, ys.map (fun x => 4 * x), by omega, by omega, by omega, by omega, by omega, by omega, by rw [List.length_map]; omega, by rw [List.length_map]; omega,
    by rw [List.pairwise_map]; exact y2.imp fun h => by omega,
    fun x m => by obtain ⟨y, my, e⟩ := List.mem_map.mp m; have := y3 y my; omega,
    fun x m => by obtain ⟨y, my, e⟩ := List.mem_map.mp m; omega, by omega⟩
  have e_cart : ((b2 ((b2 (lcM (fun _ => some true) (fun one_2 => mulG one_2 s) ys) (b2 (some bottom) (some ()) (fun x y => some (x, y))) (fun x y => some (x, y))).bind (fun t => m_law_over_bottom t.1 t.2.1)) (b2 ((b2 (mulG t s) (b2 (some bottom) (some ()) (fun x y => some (x, y))) (fun x y => some (x, y))).bind (fun t => m_law_ratio t.1 t.2.1)) (some ()) (fun x y => some (x, y))) (fun x y => some (x, y))).bind (fun t => m_Cart___init__ t.1 t.2.1)) = some p.cart := by
    have sb : s.natAbs ≤ 10 ^ 60 := Nat.le_trans (show s.natAbs ≤ 1000 by omega) (by decide)
    have bb : bottom.natAbs ≤ 10 ^ 60 := Nat.le_trans (show bottom.natAbs ≤ 1000 by omega) (by decide)
    rw [lcM_all (f' := fun x => x * s) ys fun x m => mulG_eq (Nat.le_trans (y3 x m) (by decide)) sb, b2_s, b2_s, bd_s]
    have e1 : m_law_over_bottom (ys.map fun x => x * s) bottom = some (p.xs.map p.q) := by
      unfold m_law_over_bottom
      rw [lcM_all (f' := fun z => nf z bottom) _ fun z _ => (show m_law_ratio z bottom = lratG z bottom from rfl).trans (lratG_eq (by omega) bb)]
      congr 1
      rw [List.map_map]
      show _ = (ys.map _).map _
      rw [List.map_map]
      refine List.map_congr_left fun x _ => ?_
      exact fourth p (show 4 * bottom = p.D from rfl)
    rw [e1, mulG_eq (Nat.le_trans (show t.natAbs ≤ 3 by omega) (by decide)) sb]
    have e2 : m_law_ratio (t * s) bottom = some (p.q p.T) := by
      refine (show m_law_ratio (t * s) bottom = lratG (t * s) bottom from rfl).trans ((lratG_eq (by omega) bb).trans (congrArg some ?_))
      exact fourth p (show 4 * bottom = p.D from rfl)
    show ((b2 (some (p.xs.map p.q)) (b2 (m_law_ratio (t * s) bottom) _ _) _).bind _) = _
    rw [e2]
    exact cart_eq p
  rw [e_cart, bd_s]
  have b4 : ∀ x, x ∈ ys → mulG (4 : Int) x = some (4 * x) := fun x m => mulG_eq (by decide) (Nat.le_trans (y3 x m) (by decide))
  have e_f : lcM (fun _ => some true) (fun one_3 => mulG (4 : Int) one_3) ys = some p.xs := lcM_all (f' := fun x => 4 * x) ys b4
  rw [bd_s, e_f, bd_s]
  obtain ⟨E, told, l1, l2, l3, l4⟩ := law_end p (bottom := bottom) (tread := t) rfl rfl
  have m4t : mulG (4 : Int) t = some p.T := mulG_eq (by decide) (Nat.le_trans (show t.natAbs ≤ 3 by omega) (by decide))
  rw [m4t, b2_s, b2_s, bd_s, l1, b2_s]
  have ecat : catG [(0 : Int)] E = some (0 :: E) := if_pos (by rw [List.length_singleton]; show 1 + E.length ≤ 16777216; omega)
  rw [ecat, bd_s, bd_s, rgG_eq (by decide) (by decide) (by omega) (by rw [List.length_cons]; omega), bd_s]
  show loR (forL (m_law_b1 bottom t p.s p.xs (0 :: E)) (rgL 0 ((0 :: E).length : Int)) []) _ = _
  rw [l4]
  show (m_sure_lengths p.cart).bind _ = _
  rw [l3, bd_s, b2_s, decide_eq_true rfl]
  rfl
end K44
set_option Elab.async false
set_option linter.all false
set_option maxRecDepth 100000
set_option maxHeartbeats 0
namespace K44
open PySem PySem.Spec PyProof.Rows L2 L2.T

def dd_is_whole : He.DefD := ⟨("is_whole", none), "is_whole", "is_whole", defArgs s_is_whole, defBody s_is_whole, defScope s_is_whole, [.non, .non], []⟩
def dd_is_ratio : He.DefD := ⟨("is_ratio", none), "is_ratio", "is_ratio", defArgs s_is_ratio, defBody s_is_ratio, defScope s_is_ratio, [], []⟩
def dd_is_small : He.DefD := ⟨("is_small", none), "is_small", "is_small", defArgs s_is_small, defBody s_is_small, defScope s_is_small, [], []⟩
def dd_is_weight : He.DefD := ⟨("is_weight", none), "is_weight", "is_weight", defArgs s_is_weight, defBody s_is_weight, defScope s_is_weight, [], []⟩
def dd_lowest : He.DefD := ⟨("_lowest", none), "_lowest", "_lowest", defArgs s_lowest, defBody s_lowest, defScope s_lowest, [], []⟩
def dd_plus : He.DefD := ⟨("plus", none), "plus", "plus", defArgs s_plus, defBody s_plus, defScope s_plus, [], []⟩
def dd_minus : He.DefD := ⟨("minus", none), "minus", "minus", defArgs s_minus, defBody s_minus, defScope s_minus, [], []⟩
def dd_times : He.DefD := ⟨("times", none), "times", "times", defArgs s_times, defBody s_times, defScope s_times, [], []⟩
def dd_compare : He.DefD := ⟨("compare", none), "compare", "compare", defArgs s_compare, defBody s_compare, defScope s_compare, [], []⟩
def dd_label_marks : He.DefD := ⟨("label_marks", none), "label_marks", "label_marks", defArgs s_label_marks, defBody s_label_marks, defScope s_label_marks, [], []⟩
def dd_Cart___init__ : He.DefD := ⟨("Cart", some "__init__"), "__init__", "Cart.__init__", defArgs s_Cart___init__, defBody s_Cart___init__, defScope s_Cart___init__, [.glo "ZERO"], []⟩
def dd_lengths_of_stop : He.DefD := ⟨("lengths_of_stop", none), "lengths_of_stop", "lengths_of_stop", defArgs s_lengths_of_stop, defBody s_lengths_of_stop, defScope s_lengths_of_stop, [], []⟩
def dd_ranges_of_stops : He.DefD := ⟨("ranges_of_stops", none), "ranges_of_stops", "ranges_of_stops", defArgs s_ranges_of_stops, defBody s_ranges_of_stops, defScope s_ranges_of_stops, [], []⟩
def dd_is_length_within : He.DefD := ⟨("is_length_within", none), "is_length_within", "is_length_within", defArgs s_is_length_within, defBody s_is_length_within, defScope s_is_length_within, [], []⟩
def dd_critical_lengths : He.DefD := ⟨("critical_lengths", none), "critical_lengths", "critical_lengths", defArgs s_critical_lengths, defBody s_critical_lengths, defScope s_critical_lengths, [], []⟩
def dd_sure_lengths : He.DefD := ⟨("sure_lengths", none), "sure_lengths", "sure_lengths", defArgs s_sure_lengths, defBody s_sure_lengths, defScope s_sure_lengths, [], []⟩
def dd_law_digits : He.DefD := ⟨("_law_digits", none), "_law_digits", "_law_digits", defArgs s_law_digits, defBody s_law_digits, defScope s_law_digits, [], []⟩
def dd_law_cell : He.DefD := ⟨("_law_cell", none), "_law_cell", "_law_cell", defArgs s_law_cell, defBody s_law_cell, defScope s_law_cell, [], []⟩
def dd_law_gcd : He.DefD := ⟨("_law_gcd", none), "_law_gcd", "_law_gcd", defArgs s_law_gcd, defBody s_law_gcd, defScope s_law_gcd, [], []⟩
def dd_law_ratio : He.DefD := ⟨("_law_ratio", none), "_law_ratio", "_law_ratio", defArgs s_law_ratio, defBody s_law_ratio, defScope s_law_ratio, [], []⟩
def dd_law_axles : He.DefD := ⟨("_law_axles", none), "_law_axles", "_law_axles", defArgs s_law_axles, defBody s_law_axles, defScope s_law_axles, [], []⟩
def dd_law_over_bottom : He.DefD := ⟨("_law_over_bottom", none), "_law_over_bottom", "_law_over_bottom", defArgs s_law_over_bottom, defBody s_law_over_bottom, defScope s_law_over_bottom, [], []⟩
def dd_law_stand : He.DefD := ⟨("_law_stand", none), "_law_stand", "_law_stand", defArgs s_law_stand, defBody s_law_stand, defScope s_law_stand, [], []⟩
def dd_law_shifts : He.DefD := ⟨("_law_shifts", none), "_law_shifts", "_law_shifts", defArgs s_law_shifts, defBody s_law_shifts, defScope s_law_shifts, [], []⟩
def dd_law_stops : He.DefD := ⟨("_law_stops", none), "_law_stops", "_law_stops", defArgs s_law_stops, defBody s_law_stops, defScope s_law_stops, [], []⟩
def dd_law_labels : He.DefD := ⟨("_law_labels", none), "_law_labels", "_law_labels", defArgs s_law_labels, defBody s_law_labels, defScope s_law_labels, [], []⟩
def dd_law_is_sure : He.DefD := ⟨("_law_is_sure", none), "_law_is_sure", "_law_is_sure", defArgs s_law_is_sure, defBody s_law_is_sure, defScope s_law_is_sure, [], []⟩
def dd_law_critical : He.DefD := ⟨("_law_critical", none), "_law_critical", "_law_critical", defArgs s_law_critical, defBody s_law_critical, defScope s_law_critical, [], []⟩
def dd_law : He.DefD := ⟨("law", none), "law", "law", defArgs s_law, defBody s_law, defScope s_law, [], []⟩
def fn : List He.DefD := [dd_is_whole, dd_is_ratio, dd_is_small, dd_is_weight, dd_lowest, dd_plus, dd_minus, dd_times, dd_compare, dd_label_marks, dd_Cart___init__, dd_lengths_of_stop, dd_ranges_of_stops, dd_is_length_within, dd_critical_lengths, dd_sure_lengths, dd_law_digits, dd_law_cell, dd_law_gcd, dd_law_ratio, dd_law_axles, dd_law_over_bottom, dd_law_stand, dd_law_shifts, dd_law_stops, dd_law_labels, dd_law_is_sure, dd_law_critical, dd_law]
def fa : List He.Fa := [.free "abs", .free "all", .free "any", .free "bool", .free "enumerate", .free "int", .free "isinstance", .free "len", .free "list", .free "min", .free "range", .free "sorted", .free "tuple", .glo "is_whole", .glo "is_ratio", .glo "is_small", .glo "is_weight", .glo "_lowest", .glo "plus", .glo "minus", .glo "times", .glo "compare", .glo "label_marks", .glo "lengths_of_stop", .glo "ranges_of_stops", .glo "is_length_within", .glo "critical_lengths", .glo "sure_lengths", .glo "_law_digits", .glo "_law_cell", .glo "_law_gcd", .glo "_law_ratio", .glo "_law_axles", .glo "_law_over_bottom", .glo "_law_stand", .glo "_law_shifts", .glo "_law_stops", .glo "_law_labels", .glo "_law_is_sure", .glo "_law_critical", .glo "law", .glo "ZERO", .int "SMALL" (10 ^ 12 : Int), .cls "Cart", .glo "Cart", .mkr "Cart", .noat "Cart" "axles", .noat "Cart" "tread"]
def xb (K : Fg) : Bool := bltB K "gcd" (.builtin "math.gcd") && (He.tupB K "ZERO" [.int 0, .int 1])
def lo0 : List Str := ["_wall", "ScaleError", "BadCart", "ZERO", "SMALL", "is_whole", "is_ratio", "is_small", "is_weight", "_lowest", "plus", "minus", "times", "compare", "label_marks", "Cart", "lengths_of_stop", "ranges_of_stops", "is_length_within", "critical_lengths", "sure_lengths", "_law_digits", "_law_cell", "_law_gcd", "_law_ratio", "_law_axles", "_law_over_bottom", "_law_stand", "_law_shifts", "_law_stops"]
def lo1 : List Str := ["_law_labels", "_law_is_sure", "_law_critical"]
abbrev loose : List Str := lo0 ++ lo1
abbrev RR : PySem.W.OpenRow := PySem.W.OpenLaw.row PySem.Challenge.rw_wherelaid_k44_whole_lengths_that_tell_ev
abbrev hk : PySem.W.Hook := hookX 5 fa fn xb
def ob (s : PySem.W.SharedT) : AlX := obsXG 5 fa fn xb (HandSHeadRun.getT s)
theorem ob_eq (s : PySem.W.SharedT) : ob s = hk.obs s.abs := obsXG_eq (HandSHeadRun.getT_eq s)
theorem facts {P : Program} {w : World} {K : Fg} {h base : Heap} {mg : Str → Option Value} (X : K.In h) (M : h.Ns mainGlobals mg) (c : He.SaysD fa fn K) (hx : xb K = true) : Facts ⟨P, w, K, mg, base⟩ :=
  ⟨He.free_ok X M (c.fact 0 (f := .free "abs") rfl),
   He.free_ok X M (c.fact 1 (f := .free "all") rfl),
   He.free_ok X M (c.fact 2 (f := .free "any") rfl),
   He.free_ok X M (c.fact 3 (f := .free "bool") rfl),
   He.free_ok X M (c.fact 4 (f := .free "enumerate") rfl),
   He.free_ok X M (c.fact 5 (f := .free "int") rfl),
   He.free_ok X M (c.fact 6 (f := .free "isinstance") rfl),
   He.free_ok X M (c.fact 7 (f := .free "len") rfl),
   He.free_ok X M (c.fact 8 (f := .free "list") rfl),
   He.free_ok X M (c.fact 9 (f := .free "min") rfl),
   He.free_ok X M (c.fact 10 (f := .free "range") rfl),
   He.free_ok X M (c.fact 11 (f := .free "sorted") rfl),
   He.free_ok X M (c.fact 12 (f := .free "tuple") rfl),
   bltB_ok X M (ba2 hx).1,
   z_pair (He.glo_ok X M (c.fact 41 (f := .glo "ZERO") rfl)) (ba2 hx).2,
   z_int (He.int_ok X M (c.fact 42 (f := .int "SMALL" (10 ^ 12 : Int)) rfl)),
   He.glo_ok X M (c.fact 13 (f := .glo "is_whole") rfl),
   He.glo_ok X M (c.fact 14 (f := .glo "is_ratio") rfl),
   He.glo_ok X M (c.fact 15 (f := .glo "is_small") rfl),
   He.glo_ok X M (c.fact 16 (f := .glo "is_weight") rfl),
   He.glo_ok X M (c.fact 17 (f := .glo "_lowest") rfl),
   He.glo_ok X M (c.fact 18 (f := .glo "plus") rfl),
   He.glo_ok X M (c.fact 19 (f := .glo "minus") rfl),
   He.glo_ok X M (c.fact 20 (f := .glo "times") rfl),
   He.glo_ok X M (c.fact 21 (f := .glo "compare") rfl),
   He.glo_ok X M (c.fact 22 (f := .glo "label_marks") rfl),
   He.glo_ok X M (c.fact 23 (f := .glo "lengths_of_stop") rfl),
   He.glo_ok X M (c.fact 24 (f := .glo "ranges_of_stops") rfl),
   He.glo_ok X M (c.fact 25 (f := .glo "is_length_within") rfl),
   He.glo_ok X M (c.fact 26 (f := .glo "critical_lengths") rfl),
   He.glo_ok X M (c.fact 27 (f := .glo "sure_lengths") rfl),
   He.glo_ok X M (c.fact 28 (f := .glo "_law_digits") rfl),
   He.glo_ok X M (c.fact 29 (f := .glo "_law_cell") rfl),
   He.glo_ok X M (c.fact 30 (f := .glo "_law_gcd") rfl),
   He.glo_ok X M (c.fact 31 (f := .glo "_law_ratio") rfl),
   He.glo_ok X M (c.fact 32 (f := .glo "_law_axles") rfl),
   He.glo_ok X M (c.fact 33 (f := .glo "_law_over_bottom") rfl),
   He.glo_ok X M (c.fact 34 (f := .glo "_law_stand") rfl),
   He.glo_ok X M (c.fact 35 (f := .glo "_law_shifts") rfl),
   He.glo_ok X M (c.fact 36 (f := .glo "_law_stops") rfl),
   He.glo_ok X M (c.fact 37 (f := .glo "_law_labels") rfl),
   He.glo_ok X M (c.fact 38 (f := .glo "_law_is_sure") rfl),
   He.glo_ok X M (c.fact 39 (f := .glo "_law_critical") rfl),
   He.glo_ok X M (c.fact 40 (f := .glo "law") rfl),
   He.cls_ok (c.fact 43 (f := .cls "Cart") rfl),
   He.glo_ok X M (c.fact 44 (f := .glo "Cart") rfl),
   He.mkr_ok (c.fact 45 (f := .mkr "Cart") rfl),
   He.noat_ok (c.fact 46 (f := .noat "Cart" "axles") rfl),
   He.noat_ok (c.fact 47 (f := .noat "Cart" "tread") rfl)⟩
theorem chain {P : Program} {w : World} {K : Fg} {h : Heap} {mg : Str → Option Value} (X : K.In h) (M : h.Ns mainGlobals mg) (c : He.SaysD fa fn K) (hx : xb K = true) :
    ∃ fd : FuncData, (∀ (s : Shared) (v : Value), BindsTo s fd ⟨[v], []⟩ [("script", v)]) ∧ ∀ base : Heap, FnOk P w K mg base CX0 7 (He.ga K "law") fd ["script"] (spT K (aC (vS rZ) aN) (fun t => m_law t.1) (resS rB)) := by
  have G := fun base : Heap => facts (P := P) (w := w) (base := base) X M c hx
  obtain ⟨fd_is_whole, F_is_whole⟩ := c.def_ 0 (d := dd_is_whole) rfl
  have K_is_whole__1 := fun base => k_is_whole__1 (G base)  F_is_whole
  have K_is_whole__2 := fun base => k_is_whole__2 (G base)  F_is_whole
  have K_is_whole := fun base => k_is_whole (G base)  F_is_whole
  obtain ⟨fd_is_ratio, F_is_ratio⟩ := c.def_ 1 (d := dd_is_ratio) rfl
  have K_is_ratio := fun base => k_is_ratio (G base) (K_is_whole__1 base) (K_is_whole__2 base) F_is_ratio
  obtain ⟨fd_is_small, F_is_small⟩ := c.def_ 2 (d := dd_is_small) rfl
  have K_is_small := fun base => k_is_small (G base) (K_is_ratio base) F_is_small
  obtain ⟨fd_is_weight, F_is_weight⟩ := c.def_ 3 (d := dd_is_weight) rfl
  have K_is_weight := fun base => k_is_weight (G base) (K_is_small base) F_is_weight
  obtain ⟨fd_lowest, F_lowest⟩ := c.def_ 4 (d := dd_lowest) rfl
  have K_lowest := fun base => k_lowest (G base)  F_lowest
  obtain ⟨fd_plus, F_plus⟩ := c.def_ 5 (d := dd_plus) rfl
  have K_plus := fun base => k_plus (G base) (K_lowest base) F_plus
  obtain ⟨fd_minus, F_minus⟩ := c.def_ 6 (d := dd_minus) rfl
  have K_minus := fun base => k_minus (G base) (K_lowest base) F_minus
  obtain ⟨fd_times, F_times⟩ := c.def_ 7 (d := dd_times) rfl
  have K_times := fun base => k_times (G base) (K_lowest base) F_times
  obtain ⟨fd_compare, F_compare⟩ := c.def_ 8 (d := dd_compare) rfl
  have K_compare := fun base => k_compare (G base)  F_compare
  obtain ⟨fd_label_marks, F_label_marks⟩ := c.def_ 9 (d := dd_label_marks) rfl
  have K_label_marks := fun base => k_label_marks (G base)  F_label_marks
  obtain ⟨fd_Cart___init__, F_Cart___init__⟩ := c.def_ 10 (d := dd_Cart___init__) rfl
  obtain ⟨ds_Cart, r_Cart, b_Cart⟩ := F_Cart___init__.binds1 (ps := ["self", "axles", "tread"]) 3 1 (by simp [He.DefD.dvs, dd_Cart___init__]) rfl (fun T kV doc pm an cdv ct us its h1 h2 => match us, h1, its, h2 with | [_, _, _], _, [_], _ => ⟨_, rfl, rfl⟩)
  have e_Cart : ds_Cart = [] := by have := r_Cart.length; simpa [He.DefD.dvs, dd_Cart___init__] using this.symm
  subst e_Cart
  have K_Cart := fun base => k_Cart (G base) (K_is_small base) (K_compare base) (K_is_weight base) F_Cart___init__ b_Cart
  obtain ⟨fd_lengths_of_stop, F_lengths_of_stop⟩ := c.def_ 11 (d := dd_lengths_of_stop) rfl
  have K_lengths_of_stop := fun base => k_lengths_of_stop (G base) (K_times base) (K_minus base) (K_compare base) (K_plus base) F_lengths_of_stop
  obtain ⟨fd_ranges_of_stops, F_ranges_of_stops⟩ := c.def_ 12 (d := dd_ranges_of_stops) rfl
  have K_ranges_of_stops := fun base => k_ranges_of_stops (G base) (K_lengths_of_stop base) F_ranges_of_stops
  obtain ⟨fd_is_length_within, F_is_length_within⟩ := c.def_ 13 (d := dd_is_length_within) rfl
  have K_is_length_within := fun base => k_is_length_within (G base) (K_compare base) F_is_length_within
  obtain ⟨fd_critical_lengths, F_critical_lengths⟩ := c.def_ 14 (d := dd_critical_lengths) rfl
  have K_critical_lengths := fun base => k_critical_lengths (G base) (K_compare base) F_critical_lengths
  obtain ⟨fd_sure_lengths, F_sure_lengths⟩ := c.def_ 15 (d := dd_sure_lengths) rfl
  have K_sure_lengths := fun base => k_sure_lengths (G base) (K_ranges_of_stops base) (K_critical_lengths base) (K_is_length_within base) (K_label_marks base) F_sure_lengths
  obtain ⟨fd_law_digits, F_law_digits⟩ := c.def_ 16 (d := dd_law_digits) rfl
  have K_law_digits := fun base => k_law_digits (G base)  F_law_digits
  obtain ⟨fd_law_cell, F_law_cell⟩ := c.def_ 17 (d := dd_law_cell) rfl
  have K_law_cell := fun base => k_law_cell (G base)  F_law_cell
  obtain ⟨fd_law_gcd, F_law_gcd⟩ := c.def_ 18 (d := dd_law_gcd) rfl
  have K_law_gcd := fun base => k_law_gcd (G base)  F_law_gcd
  obtain ⟨fd_law_ratio, F_law_ratio⟩ := c.def_ 19 (d := dd_law_ratio) rfl
  have K_law_ratio := fun base => k_law_ratio (G base) (K_law_gcd base) F_law_ratio
  obtain ⟨fd_law_axles, F_law_axles⟩ := c.def_ 20 (d := dd_law_axles) rfl
  have K_law_axles := fun base => k_law_axles (G base)  F_law_axles
  obtain ⟨fd_law_over_bottom, F_law_over_bottom⟩ := c.def_ 21 (d := dd_law_over_bottom) rfl
  have K_law_over_bottom := fun base => k_law_over_bottom (G base) (K_law_ratio base) F_law_over_bottom
  obtain ⟨fd_law_stand, F_law_stand⟩ := c.def_ 22 (d := dd_law_stand) rfl
  have K_law_stand := fun base => k_law_stand (G base)  F_law_stand
  obtain ⟨fd_law_shifts, F_law_shifts⟩ := c.def_ 23 (d := dd_law_shifts) rfl
  have K_law_shifts := fun base => k_law_shifts (G base)  F_law_shifts
  obtain ⟨fd_law_stops, F_law_stops⟩ := c.def_ 24 (d := dd_law_stops) rfl
  have K_law_stops := fun base => k_law_stops (G base) (K_law_shifts base) (K_law_stand base) F_law_stops
  obtain ⟨fd_law_labels, F_law_labels⟩ := c.def_ 25 (d := dd_law_labels) rfl
  have K_law_labels := fun base => k_law_labels (G base)  F_law_labels
  obtain ⟨fd_law_is_sure, F_law_is_sure⟩ := c.def_ 26 (d := dd_law_is_sure) rfl
  have K_law_is_sure := fun base => k_law_is_sure (G base) (K_law_stops base) (K_law_labels base) F_law_is_sure
  obtain ⟨fd_law_critical, F_law_critical⟩ := c.def_ 27 (d := dd_law_critical) rfl
  have K_law_critical := fun base => k_law_critical (G base)  F_law_critical
  obtain ⟨fd_law, F_law⟩ := c.def_ 28 (d := dd_law) rfl
  refine ⟨fd_law, fun s u => FunD.bindsA (ps := ["script"]) F_law (fun _ _ _ _ _ _ us hl => match us, hl with | [_], _ => rfl) s [u] rfl, fun base => o_law (G base) (K_law_cell base) (K_law_digits base) (K_law_axles base) (K_law_over_bottom base) (K_law_ratio base) (K_law_critical base) (K_law_is_sure base) (K_sure_lengths base) (K_Cart base) F_law⟩
end K44
set_option Elab.async false
set_option linter.all false
set_option maxRecDepth 100000
set_option maxHeartbeats 0
namespace K44
open PySem PySem.Spec PyProof.Rows L2 L2.T
theorem run (w : World) : HandSHeadRun.RunEqI RR (PySem.W.view RR.prog [0, 39]) hk ob 6000 loose w := by
  show (HandSHeadRun.wholeF _ _ _ _).map _ = some (true, _, _)
  kernel_rfl
end K44
set_option Elab.async false
set_option linter.all false
set_option maxRecDepth 100000
set_option maxHeartbeats 0
namespace K44
open PySem PySem.W PySem.Calls PyProof.Rows L2 L2.T
abbrev qq := PySem.W.view RR.prog [0, 39]
abbrev dL : DefRec := HandSHeadRun.topDef RR.prog 39
theorem t1 : defOf qq RR.name = some (dL, []) := by kernel_rfl
theorem t2 : RR.prog.theDef RR.name = some (dL.params, dL.body, dL.scope) := by kernel_rfl
theorem t3 : kwWritten? dL.params.kwonlyargs dL.params.kw_defaults = some [] := by kernel_rfl
theorem t4 : (!RR.writes || RR.records.isEmpty) = true := by rfl
theorem t5 : RR.wellSaid = true := by decide +kernel
theorem t6 : (chainsOk qq && opensWell RR.prog && (frees RR.toRowW && RR.within.isEmpty)) = true := by decide +kernel
theorem t7 : RR.prog.bare := ⟨rfl, rfl, rfl, rfl, rfl, by decide +kernel⟩
theorem t8 : dL.name = ("law" : PySem.Str) := by kernel_rfl
theorem t9 : dL.params.defaults = [] := by kernel_rfl
theorem t10 : PySem.Challenge.rw_wherelaid_k44_whole_lengths_that_tell_ev.most = some 63 := by rfl
theorem t11 : RR.toRowW.promised := by w_witness2
end K44
set_option Elab.async false
set_option linter.all false
set_option maxRecDepth 100000
set_option maxHeartbeats 0
namespace K44
open PySem PySem.W PySem.Calls PyProof.Rows L2 L2.T
theorem t12 : WalkO qq loose (XL qq []) hk.says RR.toRowW dL [] (fun f vs => PySem.call f vs) := by
  refine L2.walk_ofE (l := PySem.Challenge.rw_wherelaid_k44_whole_lengths_that_tell_ev) (n := 63) (k := 7) (x := "script") (CX := L2.CX0) t10 (by decide) t9 ⟨rfl, by decide, by decide⟩ ?F (fun _ _ _ _ z => z)
  intro w mg fa h Y G hmg0
  obtain ⟨K, KX, c, hx⟩ := Y
  have hmg : mg ("law" : PySem.Str) = some (.ref fa) := by
    rw [← t8]
    exact hmg0
  obtain ⟨fd, hb, hF⟩ := chain (P := (PySem.Challenge.rw_wherelaid_k44_whole_lengths_that_tell_ev).prog) (w := w) KX G c hx
  have ef : fa = He.ga K ("law" : PySem.Str) := by
    have h1 := (facts (P := (PySem.Challenge.rw_wherelaid_k44_whole_lengths_that_tell_ev).prog) (w := w) (base := h) KX G c hx).g_law
    have h2 : some (Value.ref fa) = some (Value.ref (He.ga K ("law" : PySem.Str))) := hmg.symm.trans h1
    injection h2 with h3
    injection h3
  subst ef
  exact ⟨K, fd, _, KX, hb, fun H a ns hl _ hS => ⟨H, (ns, ()), true, L2.Same.refl H, ⟨.ref a, [], rfl, ⟨a, rfl, hS, hl⟩, rfl⟩, law_true ns hl, fun v F' H' _ q => q⟩, fun base _ _ => hF base⟩
theorem holds0 : RR.Holds := HandSHeadRun.head_imp (r := RR) (q := qq) (H := hk) (ob := ob) (M := 6000) (loose := loose) (d := dL) (kwd := []) ob_eq run t1 t2 t3 t4 t5 t6 t7 t11 t12
end K44
theorem PySem.Challenge.cw_wherelaid_k44_whole_lengths_that_tell_ev_holds : PySem.Challenge.rw_wherelaid_k44_whole_lengths_that_tell_ev.Holds := by
  w_on; o_law
  exact K44.holds0
