/- The law on TopsOf answers true for every list of heights; no condition. -/
import Derived.Test.YtifpaoaipaicbaaQLawTopsOf
import Derived.Test.YtifpaoaipaicbaaQOpn
import Derived.Test.YtifpaoaipaicbaaQBIn
import Derived.Test.YtifpaoaipaicbaaQBInts
namespace Go.Proofs.Ytifpaoaipaicbaa.Q
open Go.RowKit Go.Proofs.YtifpaoaipaicbaaW.PrintWords Go.Proofs.YtifpaoaipaicbaaW.PrintLast Go.Proofs.YtifpaoaipaicbaaW.PrintMore

def Pure.FnExactTopsOf : Prop := ∀ (x0 : List Int), (x0.length ≤ maxLen ∧ ∀ z_ ∈ x0, (Lit.int .i64 z_).wf = true) → ∃ k, laws_FnExactTopsOf.f k x0 = some true

def topC (l : List Int) (i : Nat) : Bool := decide (rd l i > rd l ((i : Int) - 1)) && decide (rd l i ≥ rd l ((i : Int) + 1))
def topF (l : List Int) (i : Nat) (s : List Int) : List Int := if topC l i = true then s ++ [(i : Int)] else s
def topsV (l : List Int) : List Int × Int := loopV (fun _ _ => true) (topF l) (fun _ s => (s, 0)) (fun s => (s, 0)) (l.length - 2) 1 []
theorem topF_len (l : List Int) (i : Nat) (s : List Int) : (topF l i s).length ≤ s.length + 1 := by
  unfold topF
  split
  · simp
  · omega
theorem topsV_len (l : List Int) : (topsV l).1.length ≤ l.length := by
  unfold topsV
  rcases Nat.lt_or_ge l.length 2 with h | h
  · rw [show l.length - 2 = 0 by omega]
    simp [loopV]
  · refine loopV_ind (l.length - 1) (fun i s => s.length ≤ i) (fun (r : List Int × Int) => r.1.length ≤ l.length) ?_ ?_ ?_ (l.length - 2) 1 [] (by omega) (by simp)
    · intro i s hi hs _
      have := topF_len l i s
      omega
    · intro i s hi hs hc
      cases hc
    · intro s hs
      show s.length ≤ _
      omega
theorem specTops1 (l : List Int) (h : l.length ≤ 1048576) : Ev (fun k => spec_TopsOf.l1 k l [] 1) (topsV l) := by
  unfold topsV
  rcases Nat.lt_or_ge l.length 2 with h2 | h2
  · rw [show l.length - 2 = 0 by omega]
    refine Ev.step (fun k => spec_TopsOf.l1.eq_2 _ _ _ _) (Ev.ite_neg ?_ (Ev.now _))
    rw [w64 (by omega) (by omega)]
    omega
  · refine Ev.loop (L := fun k s (i : Nat) => spec_TopsOf.l1 k l s i) (l.length - 1) _ _ _ _ (fun i s => 1 ≤ i ∧ s.length ≤ i) ?_ ?_ ?_ (l.length - 2) 1 [] (by omega) ⟨Nat.le_refl _, by simp⟩
    · rintro i s hi ⟨h0, hs⟩ _
      refine ⟨⟨by omega, by have := topF_len l i s; omega⟩, fun r hr => Ev.step (fun k => spec_TopsOf.l1.eq_2 _ _ _ _) ?_⟩
      rw [w64_succ (by omega), w64 (x := (i : Int) - 1) (by omega) (by omega)]
      refine Ev.ite_pos (by omega) (Ev.ite_pos (by omega) (Ev.ite_pos (by omega) (Ev.ite_pos (by omega) (Ev.ite_pos (by omega) ?_))))
      by_cases h3 : rd l i > rd l ((i : Int) - 1)
      · refine Ev.ite_pos h3 (Ev.ite_pos (by omega) ?_)
        by_cases h4 : rd l i ≥ rd l ((i + 1 : Nat) : Int)
        · refine Ev.ite_pos h4 (Ev.ite_pos (by omega) ?_)
          have e : topF l i s = s ++ [(i : Int)] := by
            unfold topF topC
            rw [if_pos (by simp [h3]; simpa using h4)]
          rw [e] at hr
          exact hr
        · refine Ev.ite_neg h4 ?_
          have e : topF l i s = s := by
            unfold topF topC
            rw [if_neg (by simp; intro _; simpa using h4)]
          rw [e] at hr
          exact hr
      · refine Ev.ite_neg h3 ?_
        have e : topF l i s = s := by
          unfold topF topC
          rw [if_neg (by simp [h3])]
        rw [e] at hr
        exact hr
    · intro i s hi _ hc
      cases hc
    · rintro s ⟨h0, hs⟩
      refine Ev.step (fun k => spec_TopsOf.l1.eq_2 _ _ _ _) (Ev.ite_neg ?_ (Ev.now _))
      rw [w64_succ (by omega)]
      omega
theorem implTops1 (l : List Int) (h : l.length ≤ 1048576) : Ev (fun k => impl_TopsOf.l0 k l [] 1) (topsV l) := by
  unfold topsV
  rcases Nat.lt_or_ge l.length 2 with h2 | h2
  · rw [show l.length - 2 = 0 by omega]
    refine Ev.step (fun k => impl_TopsOf.l0.eq_2 _ _ _ _) (Ev.ite_neg ?_ (Ev.now _))
    rw [w64 (by omega) (by omega)]
    omega
  · refine Ev.loop (L := fun k s (i : Nat) => impl_TopsOf.l0 k l s i) (l.length - 1) _ _ _ _ (fun i s => 1 ≤ i ∧ s.length ≤ i) ?_ ?_ ?_ (l.length - 2) 1 [] (by omega) ⟨Nat.le_refl _, by simp⟩
    · rintro i s hi ⟨h0, hs⟩ _
      refine ⟨⟨by omega, by have := topF_len l i s; omega⟩, fun r hr => Ev.step (fun k => impl_TopsOf.l0.eq_2 _ _ _ _) ?_⟩
      rw [w64_succ (by omega), w64 (x := (i : Int) - 1) (by omega) (by omega)]
      refine Ev.ite_pos (by omega) (Ev.ite_pos (by omega) (Ev.ite_pos (by omega) (Ev.ite_pos (by omega) (Ev.ite_pos (by omega) ?_))))
      by_cases h3 : rd l i > rd l ((i : Int) - 1)
      · refine Ev.ite_pos h3 (Ev.ite_pos (by omega) ?_)
        by_cases h4 : rd l i ≥ rd l ((i + 1 : Nat) : Int)
        · refine Ev.ite_pos h4 (Ev.ite_pos (by omega) ?_)
          have e : topF l i s = s ++ [(i : Int)] := by
            unfold topF topC
            rw [if_pos (by simp [h3]; simpa using h4)]
          rw [e] at hr
          exact hr
        · refine Ev.ite_neg h4 ?_
          have e : topF l i s = s := by
            unfold topF topC
            rw [if_neg (by simp; intro _; simpa using h4)]
          rw [e] at hr
          exact hr
      · refine Ev.ite_neg h3 ?_
        have e : topF l i s = s := by
          unfold topF topC
          rw [if_neg (by simp [h3])]
        rw [e] at hr
        exact hr
    · intro i s hi _ hc
      cases hc
    · rintro s ⟨h0, hs⟩
      refine Ev.step (fun k => impl_TopsOf.l0.eq_2 _ _ _ _) (Ev.ite_neg ?_ (Ev.now _))
      rw [w64_succ (by omega)]
      omega
def topsR (l : List Int) : List Int × Int := if l.all (fun x => inB x 0 1000) = true then (if l.length > 400 then ([], 2) else topsV l) else ([], 2)
theorem specTops (l : List Int) (h : l.length ≤ 1048576) : Ev (fun k => spec_TopsOf.f k l) (topsR l) := by
  unfold spec_TopsOf.f topsR
  refine Ev.all (L := fun k (i : Nat) => spec_TopsOf.l0 k l [] i) l _ _ _ ?_ ?_ ?_
  · intro i hi hp r hr
    refine Ev.step (fun k => spec_TopsOf.l0.eq_2 _ _ _ _) ?_
    rw [w64_succ (by omega), rd_get hi]
    exact Ev.ite_pos (by omega) (Ev.ite_pos (ge0 _) (Ev.call (l00In_val _ _ _) (Ev.ite_pos hp hr)))
  · intro i hi hp
    refine Ev.step (fun k => spec_TopsOf.l0.eq_2 _ _ _ _) ?_
    rw [rd_get hi]
    exact Ev.ite_pos (by omega) (Ev.ite_pos (ge0 _) (Ev.call (l00In_val _ _ _) (Ev.ite_neg (by rw [hp]; decide) (Ev.now _))))
  · refine Ev.step (fun k => spec_TopsOf.l0.eq_2 _ _ _ _) (Ev.ite_neg (by omega) ?_)
    refine Ev.if_ (fun hc => Ev.ite_pos (by omega) (Ev.now _)) (fun hc => Ev.ite_neg (by omega) (specTops1 l h))
theorem implTopsHas (l : List Int) (h : l.length ≤ 1048576) : Ev (fun k => slices_ContainsFunc_int64_int64_at_impl_TopsOf_1.f k l) (!l.all (fun x => inB x 0 1000)) := by
  unfold slices_ContainsFunc_int64_int64_at_impl_TopsOf_1.f
  have hf : Ev (fun k => slices_IndexFunc_int64_int64_at_impl_TopsOf_1.f k l) (findFrom (fun x => !inB x 0 1000) 0 l) := by
    unfold slices_IndexFunc_int64_int64_at_impl_TopsOf_1.f
    refine Ev.find (L := fun k (i : Nat) => slices_IndexFunc_int64_int64_at_impl_TopsOf_1.l0 k l l.length i) l _ ?_ ?_ ?_
    · intro i hi hp r hr
      refine Ev.step (fun k => slices_IndexFunc_int64_int64_at_impl_TopsOf_1.l0.eq_2 _ _ _ _) ?_
      rw [w64_succ (by omega), rd_get hi]
      refine Ev.ite_pos (by omega) (Ev.ite_pos (ge0 _) (Ev.ite_pos (by omega) (Ev.call (a := !inB l[i] 0 1000) (by unfold impl_TopsOf_1.f; rw [within_val]; rfl) (Ev.ite_neg (by rw [hp]; decide) hr))))
    · intro i hi hp
      refine Ev.step (fun k => slices_IndexFunc_int64_int64_at_impl_TopsOf_1.l0.eq_2 _ _ _ _) ?_
      rw [rd_get hi]
      refine Ev.ite_pos (by omega) (Ev.ite_pos (ge0 _) (Ev.ite_pos (by omega) (Ev.call (a := !inB l[i] 0 1000) (by unfold impl_TopsOf_1.f; rw [within_val]; rfl) (Ev.ite_pos hp (Ev.now _)))))
    · exact Ev.step (fun k => slices_IndexFunc_int64_int64_at_impl_TopsOf_1.l0.eq_2 _ _ _ _) (Ev.ite_neg (by omega) (Ev.now _))
  refine Ev.bind hf (Ev.eq_ (Ev.now _) ?_)
  rw [findFrom_ge]
  exact any_not l _
theorem implTops (l : List Int) (h : l.length ≤ 1048576) : Ev (fun k => impl_TopsOf.f k l) (topsR l) := by
  unfold impl_TopsOf.f topsR
  have no : Ev (fun k => impl_TopsOf.j0 k l true) ([], 2) := Ev.step (fun k => impl_TopsOf.j0.eq_2 _ _ _) (Ev.ite_pos rfl (Ev.now _))
  by_cases h4 : l.length > 400
  · refine Ev.ite_pos (by omega) (Ev.eq_ no ?_)
    split <;> first | rfl | rw [if_pos h4]
  · refine Ev.ite_neg (by omega) (Ev.bind (implTopsHas l h) ?_)
    by_cases ha : l.all (fun x => inB x 0 1000) = true
    · rw [ha, if_pos rfl, if_neg h4]
      exact Ev.step (fun k => impl_TopsOf.j0.eq_2 _ _ _) (Ev.ite_neg (by decide) (implTops1 l h))
    · have ha' : l.all (fun x => inB x 0 1000) = false := by simpa using ha
      rw [ha', if_neg (by decide)]
      exact no
theorem topsR_len (l : List Int) : (topsR l).1.length ≤ l.length := by
  unfold topsR
  split
  · split
    · simp
    · exact topsV_len l
  · simp
theorem pure_FnExactTopsOf : Pure.FnExactTopsOf := by
  rintro l ⟨hl, -⟩
  unfold maxLen at hl
  refine Ev.rounds (g := fun k => laws_FnExactTopsOf.f k l) ?_
  unfold laws_FnExactTopsOf.f
  by_cases h : (l.length : Int) > 1048576
  · exact Ev.ite_pos h (Ev.now _)
  · have hlen := topsR_len l
    refine Ev.ite_neg h (Ev.bind (toInts l (by omega)) (Ev.bind (specTops l (by omega)) (Ev.bind (toInts l (by omega)) (Ev.bind (implTops l (by omega)) (Ev.bind (eqInts _ (by omega)) (Ev.ite_pos rfl ?_))))))
    rw [show ((topsR l).2 != (topsR l).2) = false by simp]
    refine Ev.step (fun k => laws_FnExactTopsOf.j0.eq_2 _ _ _ _ _ _ _ _) (Ev.ite_neg (by decide) (Ev.bind (toInts l (by omega)) (Ev.bind (eqInts _ (by omega)) (Ev.ite_pos rfl (Ev.bind (markInts l (by omega)) (Ev.ite_neg (by show ¬ (1 + (l.length : Int) < 0); omega) (Ev.bind (eqInts _ (by omega)) (Ev.ite_pos rfl ?_))))))))
    rw [show ((topsR l).2 != (topsR l).2) = false by simp]
    refine Ev.step (fun k => laws_FnExactTopsOf.j1.eq_2 _ _ _ _ _ _) (Ev.ite_neg (by decide) (Ev.bind (markInts _ (by omega)) (Ev.bind (heldInts _ (by omega)) (Ev.ite_neg (by omega) (Ev.ite_pos rfl (Ev.bind (toInts l (by omega)) (Ev.bind (implTops l (by omega)) (Ev.bind (eqInts _ (by omega)) (Ev.ite_pos rfl ?_)))))))))
    rw [show ((topsR l).2 != (topsR l).2) = false by simp]
    exact Ev.step (fun k => laws_FnExactTopsOf.j2.eq_2 _ _ _ _) (Ev.ite_neg (by decide) (Ev.bind (heldInts _ (by omega)) (Ev.ite_neg (by omega) (Ev.ite_pos rfl (Ev.now _)))))
end Go.Proofs.Ytifpaoaipaicbaa.Q
