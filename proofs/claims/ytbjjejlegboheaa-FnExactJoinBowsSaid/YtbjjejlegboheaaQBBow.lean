/- Plain facts on bows: program and reference agree on which are valid. -/
import Derived.Test.YtbjjejlegboheaaQ3
import Derived.Test.YtbjjejlegboheaaQ1
import Derived.Test.YtbjjejlegboheaaQBIn
namespace Go.Proofs.Ytbjjejlegboheaa.Q
open Go.RowKit Go.Proofs.YtbjjejlegboheaaW.PrintWords Go.Proofs.YtbjjejlegboheaaW.PrintLast Go.Proofs.YtbjjejlegboheaaW.PrintMore

def slopeC (l : List Int) (i : Nat) : Bool := !decide (wrap64 (rd l i - rd l ((i : Int) - 1)) > wrap64 (rd l ((i : Int) - 1) - rd l ((i : Int) - 2)))
def slopeB (l : List Int) : Bool := loopV (fun i (_ : Unit) => slopeC l i) (fun _ s => s) (fun _ _ => false) (fun _ => true) (l.length - 2) 2 ()
def bowB (l : List Int) : Bool := inB l.length 3 40 && (rd l 0 == 0) && (rd l ((l.length : Int) - 1) == 0) && l.all (fun x => inB x 0 1000) && slopeB l

theorem bowB_len {l : List Int} (h : bowB l = true) : 3 ≤ l.length ∧ l.length ≤ 40 := by
  unfold bowB at h
  simp only [Bool.and_eq_true] at h
  have := inB_iff.1 h.1.1.1.1
  omega
theorem implSlope (l : List Int) (h : l.length ≤ 4611686018427387904) (h2 : 2 ≤ l.length) : Ev (fun k => impl_ValidBow.l0 k l 2) (slopeB l) := by
  refine Ev.loop (L := fun k (_ : Unit) (i : Nat) => impl_ValidBow.l0 k l i) l.length (fun i _ => slopeC l i) (fun _ s => s) (fun _ _ => false) (fun _ => true) (fun i _ => 2 ≤ i) ?_ ?_ ?_ (l.length - 2) 2 () (by omega) (Nat.le_refl _)
  · rintro i s hi h0 hc
    refine ⟨by omega, fun r hr => Ev.step (fun k => impl_ValidBow.l0.eq_2 _ _ _) ?_⟩
    rw [w64_succ (by omega), w64 (x := (i : Int) - 1) (by omega) (by omega), w64 (x := (i : Int) - 2) (by omega) (by omega)]
    refine Ev.ite_pos (by omega) (Ev.ite_pos (by omega) (Ev.ite_pos (by omega) (Ev.ite_pos (by omega) (Ev.ite_pos (by omega) (Ev.ite_pos (by omega) (Ev.ite_neg (by simpa [slopeC] using hc) hr))))))
  · rintro i s hi h0 hc
    refine Ev.step (fun k => impl_ValidBow.l0.eq_2 _ _ _) ?_
    rw [w64 (x := (i : Int) - 1) (by omega) (by omega), w64 (x := (i : Int) - 2) (by omega) (by omega)]
    refine Ev.ite_pos (by omega) (Ev.ite_pos (by omega) (Ev.ite_pos (by omega) (Ev.ite_pos (by omega) (Ev.ite_pos (by omega) (Ev.ite_pos (by omega) (Ev.ite_pos (by simpa [slopeC] using hc) (Ev.now _)))))))
  · intro s _
    exact Ev.step (fun k => impl_ValidBow.l0.eq_2 _ _ _) (Ev.ite_neg (by omega) (Ev.now true))
theorem specSlope (l : List Int) (h : l.length ≤ 4611686018427387904) (h2 : 2 ≤ l.length) : Ev (fun k => spec_l03Bow.l1 k l l.length 2) (slopeB l) := by
  refine Ev.loop (L := fun k (_ : Unit) (i : Nat) => spec_l03Bow.l1 k l l.length i) l.length (fun i _ => slopeC l i) (fun _ s => s) (fun _ _ => false) (fun _ => true) (fun i _ => 2 ≤ i) ?_ ?_ ?_ (l.length - 2) 2 () (by omega) (Nat.le_refl _)
  · rintro i s hi h0 hc
    refine ⟨by omega, fun r hr => Ev.step (fun k => spec_l03Bow.l1.eq_2 _ _ _ _) ?_⟩
    rw [w64_succ (by omega), w64 (x := (i : Int) - 1) (by omega) (by omega), w64 (x := (i : Int) - 2) (by omega) (by omega)]
    refine Ev.ite_pos (by omega) (Ev.ite_pos (by omega) (Ev.ite_pos (by omega) (Ev.ite_pos (by omega) (Ev.ite_pos (by omega) (Ev.ite_pos (by omega) (Ev.ite_pos (by omega) (Ev.ite_neg (by simpa [slopeC] using hc) hr)))))))
  · rintro i s hi h0 hc
    refine Ev.step (fun k => spec_l03Bow.l1.eq_2 _ _ _ _) ?_
    rw [w64 (x := (i : Int) - 1) (by omega) (by omega), w64 (x := (i : Int) - 2) (by omega) (by omega)]
    refine Ev.ite_pos (by omega) (Ev.ite_pos (by omega) (Ev.ite_pos (by omega) (Ev.ite_pos (by omega) (Ev.ite_pos (by omega) (Ev.ite_pos (by omega) (Ev.ite_pos (by omega) (Ev.ite_pos (by simpa [slopeC] using hc) (Ev.now _))))))))
  · intro s _
    exact Ev.step (fun k => spec_l03Bow.l1.eq_2 _ _ _ _) (Ev.ite_neg (by omega) (Ev.now true))
theorem specIn (l : List Int) (h : l.length ≤ 4611686018427387904) (h2 : 2 ≤ l.length) : Ev (fun k => spec_l03Bow.l0 k l l.length 0) (if l.all (fun x => inB x 0 1000) = true then slopeB l else false) := by
  refine Ev.all (L := fun k (i : Nat) => spec_l03Bow.l0 k l l.length i) l _ _ _ ?_ ?_ ?_
  · intro i hi hp r hr
    refine Ev.step (fun k => spec_l03Bow.l0.eq_2 _ _ _ _) ?_
    rw [w64_succ (by omega), rd_get hi]
    exact Ev.ite_pos (by omega) (Ev.ite_pos (ge0 _) (Ev.ite_pos (by omega) (Ev.call (l00In_val _ _ _) (Ev.ite_pos hp hr))))
  · intro i hi hp
    refine Ev.step (fun k => spec_l03Bow.l0.eq_2 _ _ _ _) ?_
    rw [rd_get hi]
    exact Ev.ite_pos (by omega) (Ev.ite_pos (ge0 _) (Ev.ite_pos (by omega) (Ev.call (l00In_val _ _ _) (Ev.ite_neg (by rw [hp]; decide) (Ev.now _)))))
  · exact Ev.step (fun k => spec_l03Bow.l0.eq_2 _ _ _ _) (Ev.ite_neg (by omega) (specSlope l h h2))
theorem specBow (l : List Int) (h : l.length ≤ 4611686018427387904) : Ev (fun k => spec_l03Bow.f k l) (bowB l) := by
  unfold spec_l03Bow.f bowB
  refine Ev.call (l00In_val _ _ _) ?_
  have no : Ev (fun k => spec_l03Bow.j0 k l l.length true) false := Ev.step (fun k => spec_l03Bow.j0.eq_2 _ _ _ _) (Ev.ite_pos rfl (Ev.now _))
  by_cases h3 : inB l.length 3 40 = true
  · obtain ⟨h3a, h3b⟩ := inB_iff.1 h3
    rw [h3]
    refine Ev.ite_pos rfl (Ev.ite_pos (by omega) ?_)
    rw [w64 (x := (l.length : Int) - 1) (by omega) (by omega)]
    by_cases h0 : rd l 0 = 0
    · refine Ev.ite_pos h0 (Ev.ite_pos (by omega) (Ev.ite_pos (by omega) ?_))
      by_cases h1 : rd l ((l.length : Int) - 1) = 0
      · have hs := specIn l h (by omega)
        have e : (rd l ((l.length : Int) - 1) != 0) = false := by simp [h1]
        rw [e]
        refine Ev.step (fun k => spec_l03Bow.j0.eq_2 _ _ _ _) (Ev.ite_neg (by decide) (Ev.eq_ hs ?_))
        simp only [h0, h1, beq_self_eq_true, Bool.true_and]
        cases l.all (fun x => inB x 0 1000) <;> simp
      · have e : (rd l ((l.length : Int) - 1) != 0) = true := by simp [h1]
        rw [e]
        exact Ev.eq_ no (by simp [h1])
    · exact Ev.ite_neg h0 (Ev.eq_ no (by simp [h0]))
  · have h3' : inB l.length 3 40 = false := by simpa using h3
    rw [h3']
    exact Ev.ite_neg (by decide) (Ev.eq_ no (by simp))
theorem implHas (l : List Int) (h : l.length ≤ 4611686018427387904) : Ev (fun k => slices_ContainsFunc_int64_int64_at_impl_ValidBow_1.f k l) (!l.all (fun x => inB x 0 1000)) := by
  unfold slices_ContainsFunc_int64_int64_at_impl_ValidBow_1.f
  have hf : Ev (fun k => slices_IndexFunc_int64_int64_at_impl_ValidBow_1.f k l) (findFrom (fun x => !inB x 0 1000) 0 l) := by
    unfold slices_IndexFunc_int64_int64_at_impl_ValidBow_1.f
    refine Ev.find (L := fun k (i : Nat) => slices_IndexFunc_int64_int64_at_impl_ValidBow_1.l0 k l l.length i) l _ ?_ ?_ ?_
    · intro i hi hp r hr
      refine Ev.step (fun k => slices_IndexFunc_int64_int64_at_impl_ValidBow_1.l0.eq_2 _ _ _ _) ?_
      rw [w64_succ (by omega), rd_get hi]
      refine Ev.ite_pos (by omega) (Ev.ite_pos (ge0 _) (Ev.ite_pos (by omega) (Ev.call (a := !inB l[i] 0 1000) (by unfold impl_ValidBow_1.f; rw [within_val]; rfl) (Ev.ite_neg (by rw [hp]; decide) hr))))
    · intro i hi hp
      refine Ev.step (fun k => slices_IndexFunc_int64_int64_at_impl_ValidBow_1.l0.eq_2 _ _ _ _) ?_
      rw [rd_get hi]
      refine Ev.ite_pos (by omega) (Ev.ite_pos (ge0 _) (Ev.ite_pos (by omega) (Ev.call (a := !inB l[i] 0 1000) (by unfold impl_ValidBow_1.f; rw [within_val]; rfl) (Ev.ite_pos hp (Ev.now _)))))
    · exact Ev.step (fun k => slices_IndexFunc_int64_int64_at_impl_ValidBow_1.l0.eq_2 _ _ _ _) (Ev.ite_neg (by omega) (Ev.now _))
  refine Ev.bind hf (Ev.eq_ (Ev.now _) ?_)
  rw [findFrom_ge]
  exact any_not l _
theorem implBow (l : List Int) (h : l.length ≤ 4611686018427387904) : Ev (fun k => impl_ValidBow.f k l) (bowB l) := by
  unfold impl_ValidBow.f bowB
  refine Ev.call (a := (l.length : Int)) rfl (Ev.call (within_val _ _ _) ?_)
  have no : Ev (fun k => impl_ValidBow.j0 k l true) false := Ev.step (fun k => impl_ValidBow.j0.eq_2 _ _ _) (Ev.ite_pos rfl (Ev.now _))
  by_cases h3 : inB l.length 3 40 = true
  · obtain ⟨h3a, h3b⟩ := inB_iff.1 h3
    rw [h3]
    refine Ev.ite_pos rfl (Ev.ite_pos (by omega) ?_)
    rw [w64 (x := (l.length : Int) - 1) (by omega) (by omega)]
    by_cases h0 : rd l 0 = 0
    · refine Ev.ite_pos h0 (Ev.ite_pos (by omega) (Ev.ite_pos (by omega) ?_))
      by_cases h1 : rd l ((l.length : Int) - 1) = 0
      · refine Ev.ite_pos h1 (Ev.bind (implHas l h) ?_)
        by_cases ha : l.all (fun x => inB x 0 1000) = true
        · rw [ha]
          refine Ev.step (fun k => impl_ValidBow.j0.eq_2 _ _ _) (Ev.ite_neg (by decide) (Ev.eq_ (implSlope l h (by omega)) ?_))
          simp [h0, h1]
        · have ha' : l.all (fun x => inB x 0 1000) = false := by simpa using ha
          rw [ha']
          exact Ev.eq_ no (by simp)
      · exact Ev.ite_neg h1 (Ev.eq_ no (by simp [h1]))
    · exact Ev.ite_neg h0 (Ev.eq_ no (by simp [h0]))
  · have h3' : inB l.length 3 40 = false := by simpa using h3
    rw [h3']
    exact Ev.ite_neg (by decide) (Ev.eq_ no (by simp))
end Go.Proofs.Ytbjjejlegboheaa.Q
