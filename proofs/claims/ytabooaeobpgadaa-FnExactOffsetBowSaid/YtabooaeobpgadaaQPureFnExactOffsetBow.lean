/- The law on OffsetBow answers true for every list of tops; no condition. -/
import Derived.Test.YtabooaeobpgadaaQLawOffsetBow
import Derived.Test.YtabooaeobpgadaaQOpn
import Derived.Test.YtabooaeobpgadaaQBBow
import Derived.Test.YtabooaeobpgadaaQBConcat
import Derived.Test.YtabooaeobpgadaaQBInts
namespace Go.Proofs.Ytabooaeobpgadaa.Q
open Go.RowKit Go.Proofs.YtabooaeobpgadaaW.PrintWords Go.Proofs.YtabooaeobpgadaaW.PrintLast Go.Proofs.YtabooaeobpgadaaW.PrintMore

def Pure.FnExactOffsetBow : Prop := ∀ (x0 : List Int), (x0.length ≤ maxLen ∧ ∀ z_ ∈ x0, (Lit.int .i64 z_).wf = true) → ∃ k, laws_FnExactOffsetBow.f k x0 = some true

def offV (l : List Int) : List Int := l.drop (l.length / 2) ++ (l.take (l.length / 2 + 1)).drop 1
def offR (l : List Int) : List Int × Int := if bowB l = true then (offV l, 0) else ([], 1)
theorem offR_len (l : List Int) : (offR l).1.length ≤ l.length + l.length := by
  unfold offR
  split
  · show (offV l).length ≤ _
    unfold offV
    simp
    omega
  · simp
theorem specOffsetBow (l : List Int) (h : l.length ≤ 1048576) : Ev (fun k => spec_OffsetBow.f k l) (offR l) := by
  unfold spec_OffsetBow.f
  rw [w64 (x := (l.length : Int) / 2) (by omega) (by omega), w64 (x := (l.length : Int) / 2 + 1) (by omega) (by omega), show ((l.length : Int) / 2).toNat = l.length / 2 by omega, show ((l.length : Int) / 2 + 1).toNat = l.length / 2 + 1 by omega]
  refine Ev.bind (specBow l (by omega)) ?_
  by_cases h1 : bowB l = true
  · rw [show offR l = (offV l, 0) from if_pos h1]
    have hb := bowB_len h1
    refine Ev.ite_pos h1 (Ev.call (a := []) rfl (Ev.ite_pos (by omega) (Ev.ite_pos (by omega) (Ev.ite_pos (by simp; omega) (Ev.call rfl (Ev.ite_pos (by omega) (Ev.ite_pos (by omega) (Ev.ite_pos (by simp; omega) (Ev.now _)))))))))
  · rw [show offR l = ([], 1) from if_neg h1]
    exact Ev.ite_neg h1 (Ev.now _)
theorem implOffsetBow (l : List Int) (h : l.length ≤ 1048576) : Ev (fun k => impl_OffsetBow.f k l) (offR l) := by
  unfold impl_OffsetBow.f
  rw [w64 (x := (l.length : Int) / 2) (by omega) (by omega), w64 (x := (l.length : Int) / 2 + 1) (by omega) (by omega), show ((l.length : Int) / 2).toNat = l.length / 2 by omega, show ((l.length : Int) / 2 + 1).toNat = l.length / 2 + 1 by omega]
  refine Ev.bind (implBow l (by omega)) ?_
  by_cases h1 : bowB l = true
  · rw [show offR l = (offV l, 0) from if_pos h1]
    have hb := bowB_len h1
    exact Ev.ite_pos h1 (Ev.ite_pos (by omega) (Ev.ite_pos (by omega) (Ev.ite_pos (by omega) (Ev.ite_pos (by omega) (Ev.bind (concat2 _ _ (by simp; omega)) (Ev.now _))))))
  · rw [show offR l = ([], 1) from if_neg h1]
    exact Ev.ite_neg h1 (Ev.now _)
theorem pure_FnExactOffsetBow : Pure.FnExactOffsetBow := by
  rintro l ⟨hl, -⟩
  unfold maxLen at hl
  refine Ev.rounds (g := fun k => laws_FnExactOffsetBow.f k l) ?_
  unfold laws_FnExactOffsetBow.f
  by_cases h : (l.length : Int) > 1048576
  · exact Ev.ite_pos h (Ev.now _)
  · have hlen := offR_len l
    have hS := specOffsetBow l (by omega)
    have hI := implOffsetBow l (by omega)
    generalize offR l = R at *
    refine Ev.ite_neg h (Ev.bind (toInts l (by omega)) (Ev.bind hS (Ev.bind (toInts l (by omega)) (Ev.bind hI (Ev.bind (eqInts _ (by omega)) (Ev.ite_pos rfl ?_))))))
    rw [show (R.2 != R.2) = false by simp]
    refine Ev.step (fun k => laws_FnExactOffsetBow.j0.eq_2 _ _ _ _ _ _ _ _) (Ev.ite_neg (by decide) (Ev.bind (toInts l (by omega)) (Ev.bind (eqInts _ (by omega)) (Ev.ite_pos rfl (Ev.bind (markInts l (by omega)) (Ev.ite_neg (by show ¬ (1 + (l.length : Int) < 0); omega) (Ev.bind (eqInts _ (by omega)) (Ev.ite_pos rfl ?_))))))))
    rw [show (R.2 != R.2) = false by simp]
    refine Ev.step (fun k => laws_FnExactOffsetBow.j1.eq_2 _ _ _ _ _ _) (Ev.ite_neg (by decide) (Ev.bind (markInts _ (by omega)) (Ev.bind (heldInts _ (by omega)) (Ev.ite_neg (by omega) (Ev.ite_pos rfl (Ev.bind (toInts l (by omega)) (Ev.bind hI (Ev.bind (eqInts _ (by omega)) (Ev.ite_pos rfl ?_)))))))))
    rw [show (R.2 != R.2) = false by simp]
    exact Ev.step (fun k => laws_FnExactOffsetBow.j2.eq_2 _ _ _ _) (Ev.ite_neg (by decide) (Ev.bind (heldInts _ (by omega)) (Ev.ite_neg (by omega) (Ev.ite_pos rfl (Ev.now _)))))
end Go.Proofs.Ytabooaeobpgadaa.Q
