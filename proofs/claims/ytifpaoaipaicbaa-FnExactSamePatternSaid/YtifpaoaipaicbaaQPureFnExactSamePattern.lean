/- The law on SamePattern answers true for every two patterns; no condition. -/
import Derived.Test.YtifpaoaipaicbaaQLawSamePattern
import Derived.Test.YtifpaoaipaicbaaQOpn
import Derived.Test.YtifpaoaipaicbaaQ19
import Derived.Test.YtifpaoaipaicbaaQ18
import Derived.Test.YtifpaoaipaicbaaQ20
import Derived.Test.YtifpaoaipaicbaaQ13
import Derived.Test.YtifpaoaipaicbaaQHPattern
import Derived.Test.YtifpaoaipaicbaaQBSlab
namespace Go.Proofs.Ytifpaoaipaicbaa.Q
open Go.RowKit Go.Proofs.YtifpaoaipaicbaaW.PrintWords Go.Proofs.YtifpaoaipaicbaaW.PrintLast Go.Proofs.YtifpaoaipaicbaaW.PrintMore
set_option linter.unusedSimpArgs false

def Pure.FnExactSamePattern : Prop := ∀ (x0 : S64) (x1 : S64), wf64 x0 → wf64 x1 → ∃ k, laws_FnExactSamePattern.f k x0.f0 x0.f1 x0.f2 x0.f3 x1.f0 x1.f1 x1.f2 x1.f3 = some true

def slabNeP (l m : List S29) (i : Nat) : Bool := (!(((rd_T29 l i).f0) == ((rd_T29 m i).f0)) || (!(((rd_T29 l i).f1) == ((rd_T29 m i).f1)) || (!(((rd_T29 l i).f2) == ((rd_T29 m i).f2)) || (!(((rd_T29 l i).f3) == ((rd_T29 m i).f3))))))
def slabsBP (l m : List S29) : Bool := loopV (fun i (_ : Unit) => !slabNeP l m i) (fun _ s => s) (fun _ _ => false) (fun _ => true) l.length 0 ()
def samePB (a0 a1 a2 : Int) (l : List S29) (b0 b1 b2 : Int) (m : List S29) : Bool := if a0 = b0 then (if a1 = b1 then (if a2 = b2 then (if l.length = m.length then slabsBP l m else false) else false) else false) else false
theorem specSlabsP (l m : List S29) (h : l.length ≤ 1048576) : Ev (fun k => spec_SameSlabs.f k l m) (if l.length = m.length then slabsBP l m else false) := by
  unfold spec_SameSlabs.f
  refine Ev.if_ (fun hl => Ev.ite_pos (by omega) ?_) (fun hl => Ev.ite_neg (by omega) (Ev.now _))
  unfold slabsBP
  refine Ev.loop (L := fun k (_ : Unit) (i : Nat) => spec_SameSlabs.l0 k l m i) l.length _ _ _ _ (fun _ _ => True) ?_ ?_ ?_ l.length 0 () (by omega) trivial
  · rintro i s hi _ hc
    refine ⟨trivial, fun r hr => Ev.step (fun k => spec_SameSlabs.l0.eq_2 _ _ _ _) ?_⟩
    rw [w64_succ (by omega)]
    exact Ev.ite_pos (by omega) (Ev.ite_pos (ge0 _) (Ev.ite_pos (by omega) (Ev.ite_neg (by simpa [slabNeP] using hc) hr)))
  · rintro i s hi _ hc
    refine Ev.step (fun k => spec_SameSlabs.l0.eq_2 _ _ _ _) ?_
    exact Ev.ite_pos (by omega) (Ev.ite_pos (ge0 _) (Ev.ite_pos (by omega) (Ev.ite_pos (by have hc' := hc; simp [slabNeP] at hc' ⊢; omega) (Ev.now _))))
  · intro s _
    exact Ev.step (fun k => spec_SameSlabs.l0.eq_2 _ _ _ _) (Ev.ite_neg (by omega) (Ev.now _))
theorem implSlabsP (l m : List S29) (h : l.length ≤ 1048576) : Ev (fun k => impl_Slab.f k l m) (if l.length = m.length then slabsBP l m else false) := by
  unfold impl_Slab.f
  refine Ev.if_ (fun hl => Ev.ite_pos (by omega) ?_) (fun hl => Ev.ite_neg (by omega) (Ev.now _))
  unfold slabsBP
  refine Ev.loop (L := fun k (_ : Unit) (i : Nat) => impl_Slab.l0 k l m l.length i) l.length _ _ _ _ (fun _ _ => True) ?_ ?_ ?_ l.length 0 () (by omega) trivial
  · rintro i s hi _ hc
    refine ⟨trivial, fun r hr => Ev.step (fun k => impl_Slab.l0.eq_2 _ _ _ _ _) ?_⟩
    rw [w64_succ (by omega)]
    exact Ev.ite_pos (by omega) (Ev.ite_pos (ge0 _) (Ev.ite_pos (by omega) (Ev.ite_pos (by omega) (Ev.ite_neg (by simpa [slabNeP] using hc) hr))))
  · rintro i s hi _ hc
    refine Ev.step (fun k => impl_Slab.l0.eq_2 _ _ _ _ _) ?_
    exact Ev.ite_pos (by omega) (Ev.ite_pos (ge0 _) (Ev.ite_pos (by omega) (Ev.ite_pos (by omega) (Ev.ite_pos (by have hc' := hc; simp [slabNeP] at hc' ⊢; omega) (Ev.now _)))))
  · intro s _
    exact Ev.step (fun k => impl_Slab.l0.eq_2 _ _ _ _ _) (Ev.ite_neg (by omega) (Ev.now _))
theorem specSameP (a0 a1 a2 : Int) (l : List S29) (b0 b1 b2 : Int) (m : List S29) (h : l.length ≤ 1048576) : Ev (fun k => spec_SamePattern.f k a0 a1 a2 l b0 b1 b2 m) (samePB a0 a1 a2 l b0 b1 b2 m) := by
  unfold spec_SamePattern.f samePB
  refine Ev.if_ (fun hc => Ev.ite_pos hc ?_) (fun hc => Ev.ite_neg hc (Ev.now _))
  refine Ev.if_ (fun hc => Ev.ite_pos hc ?_) (fun hc => Ev.ite_neg hc (Ev.now _))
  refine Ev.if_ (fun hc => Ev.ite_pos hc ?_) (fun hc => Ev.ite_neg hc (Ev.now _))
  exact Ev.bind (specSlabsP l m h) (Ev.now _)
theorem implSameP (a0 a1 a2 : Int) (l : List S29) (b0 b1 b2 : Int) (m : List S29) (h : l.length ≤ 1048576) : Ev (fun k => impl_SamePattern.f k a0 a1 a2 l b0 b1 b2 m) (samePB a0 a1 a2 l b0 b1 b2 m) := by
  unfold impl_SamePattern.f samePB
  refine Ev.if_ (fun hc => Ev.ite_pos hc ?_) (fun hc => Ev.ite_neg hc (Ev.now _))
  refine Ev.if_ (fun hc => Ev.ite_pos hc ?_) (fun hc => Ev.ite_neg hc (Ev.now _))
  refine Ev.if_ (fun hc => Ev.ite_pos hc ?_) (fun hc => Ev.ite_neg hc (Ev.now _))
  exact Ev.bind (implSlabsP l m h) (Ev.now _)
theorem toPt (a b c : Int) (l : List S27) (h : l.length ≤ 1048576) : Ev (fun k => laws_toPattern.f k a b c l) (a, b, c, l.map slabOf) := by
  unfold laws_toPattern.f
  exact Ev.bind (toSlabs l (by omega)) (Ev.now _)
theorem eqPt (a b c : Int) (l : List S29) (h : l.length ≤ 1048576) : Ev (fun k => laws_eqPattern.f k a b c l a b c l) true := by
  unfold laws_eqPattern.f
  exact Ev.ite_pos rfl (Ev.ite_pos rfl (Ev.ite_pos rfl (Ev.bind (eqSlabs l (by omega)) (Ev.ite_pos rfl (Ev.now _)))))
theorem szPt (a b c : Int) (l : List S27) (n : Int) (h : l.length ≤ 9223372036854775807) (h0 : 0 ≤ n) (h1 : n ≤ 1048576) : laws_szPattern.f a b c l n = some (if n < l.length then -1 else n - l.length) := by
  unfold laws_szPattern.f
  rw [szSlabs l n h h0 h1]
  by_cases hc : n < l.length
  · simp [hc]
  · rw [if_neg hc, Option.bind_some, if_neg (by omega)]
theorem pure_FnExactSamePattern : Pure.FnExactSamePattern := by
  rintro x y ⟨-, -, -, hx, -⟩ ⟨-, -, -, hy, -⟩
  unfold maxLen at hx hy
  refine Ev.rounds (g := fun k => laws_FnExactSamePattern.f k x.f0 x.f1 x.f2 x.f3 y.f0 y.f1 y.f2 y.f3) ?_
  unfold laws_FnExactSamePattern.f
  refine Ev.call (szPt _ _ _ _ _ hx (by omega) (by omega)) ?_
  by_cases h : (1048576 : Int) < x.f3.length
  · rw [if_pos h]
    exact Ev.ite_pos (by decide) (Ev.now _)
  · rw [if_neg h]
    refine Ev.ite_neg (by omega) (Ev.call (szPt _ _ _ _ _ hy (by omega) (by omega)) ?_)
    by_cases h2 : (1048576 : Int) - x.f3.length < y.f3.length
    · rw [if_pos h2]
      exact Ev.ite_pos (by decide) (Ev.now _)
    · rw [if_neg h2]
      refine Ev.ite_neg (by omega) (Ev.bind (toPt _ _ _ _ (by omega)) (Ev.bind (toPt _ _ _ _ (by omega)) (Ev.bind (specSameP _ _ _ _ _ _ _ _ (by simp; omega)) (Ev.bind (toPt _ _ _ _ (by omega)) (Ev.bind (toPt _ _ _ _ (by omega)) (Ev.bind (implSameP _ _ _ _ _ _ _ _ (by simp; omega)) (Ev.ite_neg (by simp) (Ev.bind (toPt _ _ _ _ (by omega)) (Ev.bind (eqPt _ _ _ _ (by simp; omega)) (Ev.ite_pos rfl (Ev.bind (toPt _ _ _ _ (by omega)) (Ev.bind (eqPt _ _ _ _ (by simp; omega)) (Ev.ite_pos rfl (Ev.now _))))))))))))))
end Go.Proofs.Ytifpaoaipaicbaa.Q
