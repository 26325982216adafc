/- The law on SameSquare answers true for every two squares; no condition. -/
import Derived.Test.YtifpaoaipaicbaaQLawSameSquare
import Derived.Test.YtifpaoaipaicbaaQOpn
import Derived.Test.YtifpaoaipaicbaaQ12
import Derived.Test.YtifpaoaipaicbaaQ13
import Derived.Test.YtifpaoaipaicbaaQHSquare
import Derived.Test.YtifpaoaipaicbaaQBSlab
namespace Go.Proofs.Ytifpaoaipaicbaa.Q
open Go.RowKit Go.Proofs.YtifpaoaipaicbaaW.PrintWords Go.Proofs.YtifpaoaipaicbaaW.PrintLast Go.Proofs.YtifpaoaipaicbaaW.PrintMore
set_option linter.unusedSimpArgs false

def Pure.FnExactSameSquare : Prop := ∀ (x0 : S50) (x1 : S50), wf50 x0 → wf50 x1 → ∃ k, laws_FnExactSameSquare.f k x0.f0 x0.f1 x0.f2 x1.f0 x1.f1 x1.f2 = some true

def slabNe (l m : List S29) (i : Nat) : Bool := (!(((rd_T29 l i).f0) == ((rd_T29 m i).f0)) || (!(((rd_T29 l i).f1) == ((rd_T29 m i).f1)) || (!(((rd_T29 l i).f2) == ((rd_T29 m i).f2)) || (!(((rd_T29 l i).f3) == ((rd_T29 m i).f3))))))
def slabsB (l m : List S29) : Bool := loopV (fun i (_ : Unit) => !slabNe l m i) (fun _ s => s) (fun _ _ => false) (fun _ => true) l.length 0 ()
def sameB (a0 a1 : Int) (l : List S29) (b0 b1 : Int) (m : List S29) : Bool := if a0 = b0 then (if a1 = b1 then (if l.length = m.length then slabsB l m else false) else false) else false
theorem specSame (a0 a1 : Int) (l : List S29) (b0 b1 : Int) (m : List S29) (h : l.length ≤ 1048576) : Ev (fun k => spec_SameSquare.f k a0 a1 l b0 b1 m) (sameB a0 a1 l b0 b1 m) := by
  unfold spec_SameSquare.f sameB
  have no : ∀ c0 c1 n0 n1, Ev (fun k => spec_SameSquare.j0 k true c0 c1 l n0 n1 m) false := fun _ _ _ _ => Ev.step (fun k => spec_SameSquare.j0.eq_2 _ _ _ _ _ _ _ _) (Ev.ite_pos rfl (Ev.now _))
  refine Ev.if_ (fun hc => Ev.ite_pos hc ?_) (fun hc => Ev.ite_neg hc (no _ _ _ _))
  refine Ev.if_ (fun hc => Ev.ite_pos hc ?_) (fun hc => Ev.ite_neg hc (no _ _ _ _))
  by_cases hl : l.length = m.length
  · rw [if_pos hl, show ((l.length : Int) != (m.length : Int)) = false by simp [hl]]
    refine Ev.step (fun k => spec_SameSquare.j0.eq_2 _ _ _ _ _ _ _ _) (Ev.ite_neg (by decide) ?_)
    unfold slabsB
    refine Ev.loop (L := fun k (_ : Unit) (i : Nat) => spec_SameSquare.l0 k i a0 a1 l b0 b1 m) l.length _ _ _ _ (fun _ _ => True) ?_ ?_ ?_ l.length 0 () (by omega) trivial
    · rintro i s hi _ hc
      refine ⟨trivial, fun r hr => Ev.step (fun k => spec_SameSquare.l0.eq_2 _ _ _ _ _ _ _ _) ?_⟩
      rw [w64_succ (by omega)]
      exact Ev.ite_pos (by omega) (Ev.ite_pos (ge0 _) (Ev.ite_pos (by omega) (Ev.ite_neg (by simpa [slabNe] using hc) hr)))
    · rintro i s hi _ hc
      refine Ev.step (fun k => spec_SameSquare.l0.eq_2 _ _ _ _ _ _ _ _) ?_
      exact Ev.ite_pos (by omega) (Ev.ite_pos (ge0 _) (Ev.ite_pos (by omega) (Ev.ite_pos (by have hc' := hc; simp [slabNe] at hc' ⊢; omega) (Ev.now _))))
    · intro s _
      exact Ev.step (fun k => spec_SameSquare.l0.eq_2 _ _ _ _ _ _ _ _) (Ev.ite_neg (by omega) (Ev.now _))
  · rw [if_neg hl, show ((l.length : Int) != (m.length : Int)) = true by simp; omega]
    exact no _ _ _ _
theorem implSlabs (l m : List S29) (h : l.length ≤ 1048576) : Ev (fun k => impl_Slab.f k l m) (if l.length = m.length then slabsB l m else false) := by
  unfold impl_Slab.f
  refine Ev.if_ (fun hl => Ev.ite_pos (by omega) ?_) (fun hl => Ev.ite_neg (by omega) (Ev.now _))
  unfold slabsB
  refine Ev.loop (L := fun k (_ : Unit) (i : Nat) => impl_Slab.l0 k l m l.length i) l.length _ _ _ _ (fun _ _ => True) ?_ ?_ ?_ l.length 0 () (by omega) trivial
  · rintro i s hi _ hc
    refine ⟨trivial, fun r hr => Ev.step (fun k => impl_Slab.l0.eq_2 _ _ _ _ _) ?_⟩
    rw [w64_succ (by omega)]
    exact Ev.ite_pos (by omega) (Ev.ite_pos (ge0 _) (Ev.ite_pos (by omega) (Ev.ite_pos (by omega) (Ev.ite_neg (by simpa [slabNe] using hc) hr))))
  · rintro i s hi _ hc
    refine Ev.step (fun k => impl_Slab.l0.eq_2 _ _ _ _ _) ?_
    exact Ev.ite_pos (by omega) (Ev.ite_pos (ge0 _) (Ev.ite_pos (by omega) (Ev.ite_pos (by omega) (Ev.ite_pos (by have hc' := hc; simp [slabNe] at hc' ⊢; omega) (Ev.now _)))))
  · intro s _
    exact Ev.step (fun k => impl_Slab.l0.eq_2 _ _ _ _ _) (Ev.ite_neg (by omega) (Ev.now _))
theorem implSame (a0 a1 : Int) (l : List S29) (b0 b1 : Int) (m : List S29) (h : l.length ≤ 1048576) : Ev (fun k => impl_SameSquare.f k a0 a1 l b0 b1 m) (sameB a0 a1 l b0 b1 m) := by
  unfold impl_SameSquare.f sameB
  refine Ev.if_ (fun hc => Ev.ite_pos hc ?_) (fun hc => Ev.ite_neg hc (Ev.now _))
  refine Ev.if_ (fun hc => Ev.ite_pos hc ?_) (fun hc => Ev.ite_neg hc (Ev.now _))
  exact Ev.bind (implSlabs l m h) (Ev.now _)
theorem toSq (a b : Int) (l : List S27) (h : l.length ≤ 1048576) : Ev (fun k => laws_toSquare.f k a b l) (a, b, l.map slabOf) := by
  unfold laws_toSquare.f
  exact Ev.bind (toSlabs l (by omega)) (Ev.now _)
theorem eqSq (a b : Int) (l : List S29) (h : l.length ≤ 1048576) : Ev (fun k => laws_eqSquare.f k a b l a b l) true := by
  unfold laws_eqSquare.f
  exact Ev.ite_pos rfl (Ev.ite_pos rfl (Ev.bind (eqSlabs l (by omega)) (Ev.ite_pos rfl (Ev.now _))))
theorem szSq (a b : Int) (l : List S27) (n : Int) (h : l.length ≤ 9223372036854775807) (h0 : 0 ≤ n) (h1 : n ≤ 1048576) : laws_szSquare.f a b l n = some (if n < l.length then -1 else n - l.length) := by
  unfold laws_szSquare.f
  rw [szSlabs l n h h0 h1]
  by_cases hc : n < l.length
  · simp [hc]
  · rw [if_neg hc, Option.bind_some, if_neg (by omega)]
theorem pure_FnExactSameSquare : Pure.FnExactSameSquare := by
  rintro x y ⟨-, -, hx, -⟩ ⟨-, -, hy, -⟩
  unfold maxLen at hx hy
  refine Ev.rounds (g := fun k => laws_FnExactSameSquare.f k x.f0 x.f1 x.f2 y.f0 y.f1 y.f2) ?_
  unfold laws_FnExactSameSquare.f
  refine Ev.call (szSq _ _ _ _ hx (by omega) (by omega)) ?_
  by_cases h : (1048576 : Int) < x.f2.length
  · rw [if_pos h]
    exact Ev.ite_pos (by decide) (Ev.now _)
  · rw [if_neg h]
    refine Ev.ite_neg (by omega) (Ev.call (szSq _ _ _ _ hy (by omega) (by omega)) ?_)
    by_cases h2 : (1048576 : Int) - x.f2.length < y.f2.length
    · rw [if_pos h2]
      exact Ev.ite_pos (by decide) (Ev.now _)
    · rw [if_neg h2]
      refine Ev.ite_neg (by omega) (Ev.bind (toSq _ _ _ (by omega)) (Ev.bind (toSq _ _ _ (by omega)) (Ev.bind (specSame _ _ _ _ _ _ (by simp; omega)) (Ev.bind (toSq _ _ _ (by omega)) (Ev.bind (toSq _ _ _ (by omega)) (Ev.bind (implSame _ _ _ _ _ _ (by simp; omega)) (Ev.ite_neg (by simp) (Ev.bind (toSq _ _ _ (by omega)) (Ev.bind (eqSq _ _ _ (by simp; omega)) (Ev.ite_pos rfl (Ev.bind (toSq _ _ _ (by omega)) (Ev.bind (eqSq _ _ _ (by simp; omega)) (Ev.ite_pos rfl (Ev.now _))))))))))))))
end Go.Proofs.Ytifpaoaipaicbaa.Q
