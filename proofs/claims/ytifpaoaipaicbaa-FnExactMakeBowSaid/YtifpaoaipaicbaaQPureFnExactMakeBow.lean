/- The law on MakeBow answers true for every two numbers; no condition. -/
import Derived.Test.YtifpaoaipaicbaaQLawMakeBow
import Derived.Test.YtifpaoaipaicbaaQOpn
import Derived.Test.YtifpaoaipaicbaaQBBow
import Derived.Test.YtifpaoaipaicbaaQBInts
namespace Go.Proofs.Ytifpaoaipaicbaa.Q
open Go.RowKit Go.Proofs.YtifpaoaipaicbaaW.PrintWords Go.Proofs.YtifpaoaipaicbaaW.PrintLast Go.Proofs.YtifpaoaipaicbaaW.PrintMore

def Pure.FnExactMakeBow : Prop := ∀ (x0 : Int) (x1 : Int), (Lit.int .i64 x0).wf = true → (Lit.int .i64 x1).wf = true → ∃ k, laws_FnExactMakeBow.f k x0 x1 = some true

def arcAt (wide rise : Int) (i : Nat) : Int := wrap64 (Int.tdiv (wrap64 ((wrap64 ((wrap64 (4 * rise)) * (i : Int))) * (wrap64 (wide - (i : Int))))) (wrap64 (wide * wide)))
def arc (wide rise : Int) : List Int := (List.range (wide.toNat + 1)).map (arcAt wide rise)
def bowR (wide rise : Int) : List Int × Int := if (inB wide 2 39 && inB rise 0 1000) = true then (if bowB (arc wide rise) = true then (arc wide rise, 0) else ([], 4)) else ([], 2)
theorem arc_len (wide rise : Int) : (arc wide rise).length = wide.toNat + 1 := by simp [arc]
theorem checked_val (l : List Int) (h : l.length ≤ 4611686018427387904) : Ev (fun k => impl_checked.f k l) (if bowB l = true then (l, 0) else ([], 4)) := by
  unfold impl_checked.f
  refine Ev.bind (implBow l h) ?_
  exact Ev.if_ (fun hc => Ev.ite_pos hc (Ev.now _)) (fun hc => Ev.ite_neg hc (Ev.now _))
theorem range_snoc (wide rise : Int) (i : Nat) : (List.range (i + 1)).map (arcAt wide rise) = (List.range i).map (arcAt wide rise) ++ [arcAt wide rise i] := by
  rw [List.range_succ, List.map_append]
  rfl
theorem specArc (wide rise : Int) (h : inB wide 2 39 = true) : Ev (fun k => spec_MakeBow.l0 k wide rise [] 0) (if bowB (arc wide rise) = true then (arc wide rise, 0) else ([], 4)) := by
  obtain ⟨h0, h1⟩ := inB_iff.1 h
  have hsq : wrap64 (wide * wide) ≠ 0 := by
    have a1 : 2 * 2 ≤ wide * wide := Int.mul_le_mul h0 h0 (by omega) (by omega)
    have a2 : wide * wide ≤ 39 * 39 := Int.mul_le_mul h1 h1 (by omega) (by omega)
    rw [w64 (by omega) (by omega)]
    omega
  refine Ev.run (L := fun k s (i : Nat) => spec_MakeBow.l0 k wide rise s i) (wide.toNat + 1) (fun i s => s ++ [arcAt wide rise i]) (fun i s => s = (List.range i).map (arcAt wide rise)) _ ?_ ?_ (d := wide.toNat + 1) (i := 0) (by omega) rfl
  · rintro i s hi rfl
    refine ⟨(range_snoc wide rise i).symm, fun r hr => Ev.step (fun k => spec_MakeBow.l0.eq_2 _ _ _ _ _) ?_⟩
    rw [w64_succ (by omega)]
    exact Ev.ite_pos (by omega) (Ev.ite_neg hsq (Ev.ite_pos (by simp; omega) hr))
  · rintro s rfl
    refine Ev.step (fun k => spec_MakeBow.l0.eq_2 _ _ _ _ _) (Ev.ite_neg (by omega) (Ev.bind (specBow _ (by simp; omega)) ?_))
    exact Ev.if_ (fun hc => Ev.ite_pos hc (Ev.now _)) (fun hc => Ev.ite_neg hc (Ev.now _))
theorem implArc (wide rise : Int) (h : inB wide 2 39 = true) : Ev (fun k => impl_MakeBow.l0 k wide rise [] (wrap64 (wide + 1)) 0) (if bowB (arc wide rise) = true then (arc wide rise, 0) else ([], 4)) := by
  obtain ⟨h0, h1⟩ := inB_iff.1 h
  have hsq : wrap64 (wide * wide) ≠ 0 := by
    have a1 : 2 * 2 ≤ wide * wide := Int.mul_le_mul h0 h0 (by omega) (by omega)
    have a2 : wide * wide ≤ 39 * 39 := Int.mul_le_mul h1 h1 (by omega) (by omega)
    rw [w64 (by omega) (by omega)]
    omega
  rw [w64 (x := wide + 1) (by omega) (by omega)]
  refine Ev.run (L := fun k s (i : Nat) => impl_MakeBow.l0 k wide rise s (wide + 1) i) (wide.toNat + 1) (fun i s => s ++ [arcAt wide rise i]) (fun i s => s = (List.range i).map (arcAt wide rise)) _ ?_ ?_ (d := wide.toNat + 1) (i := 0) (by omega) rfl
  · rintro i s hi rfl
    refine ⟨(range_snoc wide rise i).symm, fun r hr => Ev.step (fun k => impl_MakeBow.l0.eq_2 _ _ _ _ _ _) ?_⟩
    rw [w64_succ (by omega)]
    exact Ev.ite_pos (by omega) (Ev.ite_neg hsq (Ev.ite_pos (by simp; omega) hr))
  · rintro s rfl
    exact Ev.step (fun k => impl_MakeBow.l0.eq_2 _ _ _ _ _ _) (Ev.ite_neg (by omega) (Ev.bind (checked_val _ (by simp; omega)) (Ev.now _)))
theorem specMakeBow (wide rise : Int) : Ev (fun k => spec_MakeBow.f k wide rise) (bowR wide rise) := by
  unfold spec_MakeBow.f bowR
  refine Ev.call (l00In_val _ _ _) ?_
  have no : Ev (fun k => spec_MakeBow.j0 k wide rise true) ([], 2) := Ev.step (fun k => spec_MakeBow.j0.eq_2 _ _ _ _) (Ev.ite_pos rfl (Ev.now _))
  by_cases h1 : inB wide 2 39 = true
  · refine Ev.ite_pos h1 (Ev.call (l00In_val _ _ _) ?_)
    by_cases h2 : inB rise 0 1000 = true
    · rw [if_pos (by rw [h1, h2]; rfl), h2]
      exact Ev.step (fun k => spec_MakeBow.j0.eq_2 _ _ _ _) (Ev.ite_neg (by decide) (specArc wide rise h1))
    · have h2' : inB rise 0 1000 = false := by simpa using h2
      rw [if_neg (by simp [h2']), h2']
      exact no
  · rw [if_neg (by simp [h1])]
    exact Ev.ite_neg h1 no
theorem implMakeBow (wide rise : Int) : Ev (fun k => impl_MakeBow.f k wide rise) (bowR wide rise) := by
  unfold impl_MakeBow.f bowR
  refine Ev.call (within_val _ _ _) ?_
  have no : Ev (fun k => impl_MakeBow.j0 k wide rise true) ([], 2) := Ev.step (fun k => impl_MakeBow.j0.eq_2 _ _ _ _) (Ev.ite_pos rfl (Ev.now _))
  by_cases h1 : inB wide 2 39 = true
  · refine Ev.ite_pos h1 (Ev.call (within_val _ _ _) ?_)
    by_cases h2 : inB rise 0 1000 = true
    · rw [if_pos (by rw [h1, h2]; rfl), h2]
      exact Ev.step (fun k => impl_MakeBow.j0.eq_2 _ _ _ _) (Ev.ite_neg (by decide) (implArc wide rise h1))
    · have h2' : inB rise 0 1000 = false := by simpa using h2
      rw [if_neg (by simp [h2']), h2']
      exact no
  · rw [if_neg (by simp [h1])]
    exact Ev.ite_neg h1 no
theorem bowR_len (wide rise : Int) : (bowR wide rise).1.length ≤ 40 := by
  unfold bowR
  split
  · rename_i h
    rw [Bool.and_eq_true] at h
    have h1 := inB_iff.1 h.1
    split
    · show (arc wide rise).length ≤ 40
      rw [arc_len]
      omega
    · simp
  · simp
theorem pure_FnExactMakeBow : Pure.FnExactMakeBow := by
  intro wide rise _ _
  refine Ev.rounds (g := fun k => laws_FnExactMakeBow.f k wide rise) ?_
  unfold laws_FnExactMakeBow.f
  have hlen := bowR_len wide rise
  have hS := specMakeBow wide rise
  have hI := implMakeBow wide rise
  generalize bowR wide rise = R at *
  refine Ev.bind hS (Ev.bind hI (Ev.bind (eqInts _ (by omega)) (Ev.ite_pos rfl ?_)))
  rw [show (R.2 != R.2) = false by simp]
  refine Ev.step (fun k => laws_FnExactMakeBow.j0.eq_2 _ _ _ _ _ _ _) (Ev.ite_neg (by decide) (Ev.bind (markInts _ (by omega)) (Ev.bind (heldInts _ (by omega)) (Ev.ite_neg (by omega) (Ev.ite_pos rfl (Ev.bind hI (Ev.bind (eqInts _ (by omega)) (Ev.ite_pos rfl ?_))))))))
  rw [show (R.2 != R.2) = false by simp]
  exact Ev.step (fun k => laws_FnExactMakeBow.j1.eq_2 _ _ _ _) (Ev.ite_neg (by decide) (Ev.bind (heldInts _ (by omega)) (Ev.ite_neg (by omega) (Ev.ite_pos rfl (Ev.now _)))))
end Go.Proofs.Ytifpaoaipaicbaa.Q
