/- Plain facts on rows of setts and their joints. -/
import Derived.Test.YtpbobnpmiafbbaaQ3
import Derived.Test.YtpbobnpmiafbbaaQ1
import Derived.Test.YtpbobnpmiafbbaaQ2
import Derived.Test.YtpbobnpmiafbbaaQBIn
namespace Go.Proofs.Ytpbobnpmiafbbaa.Q
open Go.RowKit Go.Proofs.YtpbobnpmiafbbaaW.PrintWords Go.Proofs.YtpbobnpmiafbbaaW.PrintLast Go.Proofs.YtpbobnpmiafbbaaW.PrintMore

def rowB (l : List Int) : Bool := l.all (fun x => inB x 1 20) && inB l.length 1 60
theorem specRow (l : List Int) (h : l.length ≤ 1048576) : Ev (fun k => spec_l03Row.f k l) (rowB l) := by
  unfold spec_l03Row.f
  have h0 := Ev.all (L := fun k (i : Nat) => spec_l03Row.l0 k l i) l (fun x => inB x 1 20) (inB l.length 1 60) false ?_ ?_ ?_
  · refine Ev.eq_ h0 ?_
    unfold rowB
    cases l.all (fun x => inB x 1 20) <;> simp
  · intro i hi hp r hr
    refine Ev.step (fun k => spec_l03Row.l0.eq_2 _ _ _) ?_
    rw [w64_succ (by omega), rd_get hi]
    exact Ev.ite_pos (by omega) (Ev.ite_pos (ge0 _) (Ev.call (l00In_val _ _ _) (Ev.ite_pos hp hr)))
  · intro i hi hp
    refine Ev.step (fun k => spec_l03Row.l0.eq_2 _ _ _) ?_
    rw [rd_get hi]
    exact Ev.ite_pos (by omega) (Ev.ite_pos (ge0 _) (Ev.call (l00In_val _ _ _) (Ev.ite_neg (by rw [hp]; decide) (Ev.now _))))
  · exact Ev.step (fun k => spec_l03Row.l0.eq_2 _ _ _) (Ev.ite_neg (by omega) (Ev.call (l00In_val _ _ _) (Ev.now _)))
theorem specJoint (a : Int) : spec_l03Joint.f a = some (inB a 0 5) := by
  unfold spec_l03Joint.f
  rw [l00In_val]
  rfl
theorem rowsHas (l : List Int) (h : l.length ≤ 1048576) : Ev (fun k => slices_ContainsFunc_int64_int64_at_impl_rowsCode_1.f k l) (!l.all (fun x => inB x 1 20)) := by
  unfold slices_ContainsFunc_int64_int64_at_impl_rowsCode_1.f
  have hf : Ev (fun k => slices_IndexFunc_int64_int64_at_impl_rowsCode_1.f k l) (findFrom (fun x => !inB x 1 20) 0 l) := by
    unfold slices_IndexFunc_int64_int64_at_impl_rowsCode_1.f
    refine Ev.find (L := fun k (i : Nat) => slices_IndexFunc_int64_int64_at_impl_rowsCode_1.l0 k l l.length i) l _ ?_ ?_ ?_
    · intro i hi hp r hr
      refine Ev.step (fun k => slices_IndexFunc_int64_int64_at_impl_rowsCode_1.l0.eq_2 _ _ _ _) ?_
      rw [w64_succ (by omega), rd_get hi]
      refine Ev.ite_pos (by omega) (Ev.ite_pos (ge0 _) (Ev.ite_pos (by omega) (Ev.call (a := !inB l[i] 1 20) (by unfold impl_rowsCode_1.f; rw [within_val]; rfl) (Ev.ite_neg (by rw [hp]; decide) hr))))
    · intro i hi hp
      refine Ev.step (fun k => slices_IndexFunc_int64_int64_at_impl_rowsCode_1.l0.eq_2 _ _ _ _) ?_
      rw [rd_get hi]
      refine Ev.ite_pos (by omega) (Ev.ite_pos (ge0 _) (Ev.ite_pos (by omega) (Ev.call (a := !inB l[i] 1 20) (by unfold impl_rowsCode_1.f; rw [within_val]; rfl) (Ev.ite_pos hp (Ev.now _)))))
    · exact Ev.step (fun k => slices_IndexFunc_int64_int64_at_impl_rowsCode_1.l0.eq_2 _ _ _ _) (Ev.ite_neg (by omega) (Ev.now _))
  refine Ev.bind hf (Ev.eq_ (Ev.now _) ?_)
  rw [findFrom_ge]
  exact any_not l _
theorem unless_val (b : Bool) (c : Int) : impl_unless.f b c = some (if b = true then 0 else c) := by
  unfold impl_unless.f
  split <;> rfl
/-- The code of rows and a joint: 0 or 2. -/
def rowsV (rows : List (List Int)) (j : Int) : Int := if (rows.all rowB && inB j 0 5) = true then 0 else 2
theorem rowsCode_val (rows : List (List Int)) (j : Int) (hn : rows.length ≤ 1048576) (h : ∀ l ∈ rows, l.length ≤ 1048576) : Ev (fun k => impl_rowsCode.f k j rows) (rowsV rows j) := by
  unfold impl_rowsCode.f
  have h0 := Ev.all (L := fun k (i : Nat) => impl_rowsCode.l0 k j rows rows.length i) rows rowB (if inB j 0 5 = true then 0 else 2) 2 ?_ ?_ ?_
  · refine Ev.eq_ h0 ?_
    unfold rowsV
    cases rows.all rowB <;> simp
  · intro i hi hp r hr
    have hg : rd_L1 rows i = rows[i] := by
      unfold rd_L1
      rw [Int.toNat_natCast, List.getD_eq_getElem?_getD, List.getElem?_eq_getElem hi]
      rfl
    unfold rowB at hp
    rw [Bool.and_eq_true] at hp
    obtain ⟨h1, h2⟩ := hp
    refine Ev.step (fun k => impl_rowsCode.l0.eq_2 _ _ _ _ _) ?_
    rw [w64_succ (by omega), hg]
    refine Ev.ite_pos (by omega) (Ev.ite_pos (ge0 _) (Ev.ite_pos (by omega) (Ev.call (a := (rows[i].length : Int)) rfl (Ev.call (within_val _ _ _) (Ev.ite_pos h2 (Ev.bind (rowsHas _ (h _ (List.getElem_mem hi))) ?_))))))
    rw [h1]
    exact Ev.ite_neg (by decide) hr
  · intro i hi hp
    have hg : rd_L1 rows i = rows[i] := by
      unfold rd_L1
      rw [Int.toNat_natCast, List.getD_eq_getElem?_getD, List.getElem?_eq_getElem hi]
      rfl
    refine Ev.step (fun k => impl_rowsCode.l0.eq_2 _ _ _ _ _) ?_
    rw [hg]
    refine Ev.ite_pos (by omega) (Ev.ite_pos (ge0 _) (Ev.ite_pos (by omega) (Ev.call (a := (rows[i].length : Int)) rfl (Ev.call (within_val _ _ _) ?_))))
    by_cases h2 : inB (rows[i].length : Int) 1 60 = true
    · refine Ev.ite_pos h2 (Ev.bind (rowsHas _ (h _ (List.getElem_mem hi))) ?_)
      have h1 : rows[i].all (fun x => inB x 1 20) = false := by
        unfold rowB at hp
        rw [h2, Bool.and_true] at hp
        exact hp
      rw [h1]
      exact Ev.ite_pos rfl (Ev.now _)
    · exact Ev.ite_neg h2 (Ev.now _)
  · refine Ev.step (fun k => impl_rowsCode.l0.eq_2 _ _ _ _ _) (Ev.ite_neg (by omega) (Ev.call (within_val _ _ _) (Ev.call (unless_val _ _) (Ev.now _))))
theorem rd_range {l : List Int} (hr : l.all (fun x => inB x 1 20) = true) {i : Nat} (hi : i < l.length) : 1 ≤ rd l i ∧ rd l i ≤ 20 := by
  rw [rd_get hi]
  exact inB_iff.1 (List.all_eq_true.1 hr _ (List.getElem_mem hi))
def jointF (l : List Int) (j : Int) (i : Nat) (s : List Int × Int) : List Int × Int := (s.1 ++ [s.2 + rd l i], s.2 + rd l i + j)
def jointsV (l : List Int) (j : Int) : List Int := loopV (fun _ _ => true) (jointF l j) (fun _ s => s.1) (fun s => s.1) (l.length - 1) 0 ([], 0)
theorem jointsV_len (l : List Int) (j : Int) : (jointsV l j).length = l.length - 1 := by
  unfold jointsV
  refine loopV_ind (l.length - 1) (fun i (s : List Int × Int) => s.1.length = i) (fun (r : List Int) => r.length = l.length - 1) ?_ ?_ ?_ (l.length - 1) 0 ([], 0) (by omega) rfl
  · intro i s hi hs _
    simp [jointF, hs]
  · intro i s hi hs hc
    cases hc
  · intro s hs
    exact hs
def jointInv (i : Nat) (s : List Int × Int) : Prop := s.1.length = i ∧ 0 ≤ s.2 ∧ s.2 ≤ 25 * (i : Int)
theorem specJoints (l : List Int) (j : Int) (hr : rowB l = true) (hj : inB j 0 5 = true) : Ev (fun k => spec_l03Joints.f k l j) (jointsV l j) := by
  unfold rowB at hr
  rw [Bool.and_eq_true] at hr
  obtain ⟨hr, hn⟩ := hr
  obtain ⟨hn0, hn1⟩ := inB_iff.1 hn
  obtain ⟨hj0, hj1⟩ := inB_iff.1 hj
  unfold spec_l03Joints.f jointsV
  refine Ev.loop (L := fun k s (i : Nat) => spec_l03Joints.l0 k l j s.1 s.2 i) (l.length - 1) _ _ _ _ jointInv ?_ ?_ ?_ (l.length - 1) 0 ([], 0) (by omega) ⟨rfl, by simp, by simp⟩
  · rintro i ⟨s, at_⟩ hi ⟨h1, h2, h3⟩ _
    simp only at h1 h2 h3
    obtain ⟨g0, g1⟩ := rd_range hr (i := i) (by omega)
    refine ⟨⟨by simp [jointF, h1], by simp only [jointF]; omega, by simp only [jointF]; omega⟩, fun r hr => Ev.step (fun k => spec_l03Joints.l0.eq_2 _ _ _ _ _ _) ?_⟩
    simp only
    rw [w64_succ (by omega), w64 (x := at_ + rd l i) (by omega) (by omega), w64 (x := at_ + rd l i + j) (by omega) (by omega)]
    exact Ev.ite_pos (by omega) (Ev.ite_pos (ge0 _) (Ev.ite_pos (by omega) (Ev.ite_pos (by omega) hr)))
  · intro i s hi hs hc
    cases hc
  · rintro ⟨s, at_⟩ _
    refine Ev.step (fun k => spec_l03Joints.l0.eq_2 _ _ _ _ _ _) (Ev.ite_neg ?_ (Ev.now _))
    rw [w64_succ (by omega)]
    omega
theorem implJoints (l : List Int) (j : Int) (hr : rowB l = true) (hj : inB j 0 5 = true) : Ev (fun k => impl_joints.f k l j) (jointsV l j) := by
  unfold rowB at hr
  rw [Bool.and_eq_true] at hr
  obtain ⟨hr, hn⟩ := hr
  obtain ⟨hn0, hn1⟩ := inB_iff.1 hn
  obtain ⟨hj0, hj1⟩ := inB_iff.1 hj
  unfold impl_joints.f jointsV
  rw [w64 (x := (l.length : Int) - 1) (by omega) (by omega)]
  refine Ev.ite_pos (by omega) (Ev.ite_pos (by omega) ?_)
  have hlc : (l.take ((l.length : Int) - 1).toNat).length = l.length - 1 := by
    rw [List.length_take]
    omega
  generalize hl1 : l.take ((l.length : Int) - 1).toNat = lc at hlc ⊢
  have hg : ∀ i : Nat, i < l.length - 1 → rd lc i = rd l i := by
    intro i hi
    rw [rd_get (by omega), rd_get (by omega)]
    subst hl1
    exact List.getElem_take
  refine Ev.loop (L := fun k s (i : Nat) => impl_joints.l0 k j s.1 s.2 lc lc.length i) (l.length - 1) _ _ _ _ jointInv ?_ ?_ ?_ (l.length - 1) 0 ([], 0) (by omega) ⟨rfl, by simp, by simp⟩
  · rintro i ⟨s, at_⟩ hi ⟨h1, h2, h3⟩ _
    simp only at h1 h2 h3
    obtain ⟨g0, g1⟩ := rd_range hr (i := i) (by omega)
    refine ⟨⟨by simp [jointF, h1], by simp only [jointF]; omega, by simp only [jointF]; omega⟩, fun r hr => Ev.step (fun k => impl_joints.l0.eq_2 _ _ _ _ _ _ _) ?_⟩
    simp only
    rw [hg i hi, w64_succ (by omega), w64 (x := at_ + rd l i) (by omega) (by omega), w64 (x := rd l i + j) (by omega) (by omega), w64 (x := at_ + (rd l i + j)) (by omega) (by omega), show at_ + (rd l i + j) = at_ + rd l i + j by omega]
    exact Ev.ite_pos (by omega) (Ev.ite_pos (ge0 _) (Ev.ite_pos (by omega) (Ev.ite_pos (by omega) hr)))
  · intro i s hi hs hc
    cases hc
  · rintro ⟨s, at_⟩ _
    exact Ev.step (fun k => impl_joints.l0.eq_2 _ _ _ _ _ _ _) (Ev.ite_neg (by omega) (Ev.now _))
end Go.Proofs.Ytpbobnpmiafbbaa.Q
