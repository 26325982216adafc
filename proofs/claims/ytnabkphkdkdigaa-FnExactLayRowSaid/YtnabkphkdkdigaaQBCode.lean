/- Plain facts on setts: the codes of what is asked. -/
import Derived.Test.YtnabkphkdkdigaaQBSett
import Derived.Test.YtnabkphkdkdigaaQ11
import Derived.Test.YtnabkphkdkdigaaQ3
import Derived.Test.YtnabkphkdkdigaaQ9
namespace Go.Proofs.Ytnabkphkdkdigaa.Q
open Go.RowKit Go.Proofs.YtnabkphkdkdigaaW.PrintWords Go.Proofs.YtnabkphkdkdigaaW.PrintLast Go.Proofs.YtnabkphkdkdigaaW.PrintMore
set_option linter.unusedVariables false
set_option linter.unusedSimpArgs false

theorem loopV_all {c : Nat → Bool} {z : Bool} : ∀ d i, loopV (fun i (_ : Unit) => c i) (fun _ s => s) (fun _ _ => false) (fun _ => z) d i () = true → z = true ∧ ∀ j, i ≤ j → j < i + d → c j = true
  | 0, i, h => ⟨h, fun j h1 h2 => by omega⟩
  | d + 1, i, h => by
    unfold loopV at h
    by_cases hc : c i = true
    · rw [if_pos hc] at h
      obtain ⟨h1, h2⟩ := loopV_all d (i + 1) h
      refine ⟨h1, fun j h3 h4 => ?_⟩
      by_cases h5 : j = i
      · rw [h5]; exact hc
      · exact h2 j (by omega) (by omega)
    · rw [if_neg hc] at h
      cases h
theorem asked_val (l : List S43) (b : Bool) (h : l.length ≤ 1048576) : Ev (fun k => spec_l03Asked.f k l b) (if settsB l = true then (if b = true then 0 else 2) else 1) := by
  unfold spec_l03Asked.f
  refine Ev.bind (specSetts l h) ?_
  refine Ev.if_ (fun hc => Ev.ite_pos hc ?_) (fun hc => Ev.ite_neg hc (Ev.now _))
  exact Ev.if_ (fun hc => Ev.ite_pos hc (Ev.now _)) (fun hc => Ev.ite_neg hc (Ev.now _))
theorem long_val (a : Int) : spec_l03Long.f a = some (inB a 1 400) := by
  unfold spec_l03Long.f
  rw [l00In_val]
  rfl
theorem joint_val (a : Int) : spec_l03Joint.f a = some (inB a 0 5) := by
  unfold spec_l03Joint.f
  rw [l00In_val]
  rfl
theorem unless_v (b : Bool) (c : Int) : impl_unless.f b c = some (if b = true then 0 else c) := by
  unfold impl_unless.f
  split <;> rfl
theorem rowCode_val (l : List S43) (a1 a2 : Int) (h : l.length ≤ 1048576) : Ev (fun k => impl_rowCode.f k l a1 a2) (if settsB l = true then (if (inB a1 1 400 && inB a2 0 5) = true then 0 else 2) else 1) := by
  unfold impl_rowCode.f
  refine Ev.bind (implSetts l h) ?_
  refine Ev.if_ (fun hc => Ev.ite_pos hc ?_) (fun hc => Ev.ite_neg hc (Ev.now _))
  refine Ev.call (within_val _ _ _) ?_
  by_cases h1 : inB a1 1 400 = true
  · refine Ev.ite_pos h1 (Ev.call (within_val _ _ _) (Ev.call (unless_v _ _) (Ev.eq_ (Ev.now _) ?_)))
    simp [h1]
  · refine Ev.ite_neg h1 (Ev.call (unless_v _ _) (Ev.eq_ (Ev.now _) ?_))
    simp [h1]
end Go.Proofs.Ytnabkphkdkdigaa.Q
