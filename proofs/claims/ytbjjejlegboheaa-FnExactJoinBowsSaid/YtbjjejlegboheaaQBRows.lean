/- Plain facts on lists of lists of whole numbers: how the laws convert, compare and mark them. -/
import Derived.Test.YtbjjejlegboheaaQHIntRows
import Derived.Test.YtbjjejlegboheaaQBInts
namespace Go.Proofs.Ytbjjejlegboheaa.Q
open Go.RowKit Go.Proofs.YtbjjejlegboheaaW.PrintWords Go.Proofs.YtbjjejlegboheaaW.PrintLast Go.Proofs.YtbjjejlegboheaaW.PrintMore
set_option linter.unusedVariables false

theorem rdL_get {l : List (List Int)} {i : Nat} (h : i < l.length) : rd_L1 l (i : Int) = l[i] := by
  unfold rd_L1
  rw [Int.toNat_natCast, List.getD_eq_getElem?_getD, List.getElem?_eq_getElem h]
  rfl
def sumL (l : List (List Int)) : Nat := (l.map List.length).sum
theorem sumL_cons (a : List Int) (l : List (List Int)) : sumL (a :: l) = a.length + sumL l := by simp [sumL]
theorem sumL_mem : ∀ {l : List (List Int)} {a : List Int}, a ∈ l → a.length ≤ sumL l
  | b :: l, a, h => by
    rw [sumL_cons]
    rcases List.mem_cons.1 h with rfl | h
    · omega
    · have := sumL_mem h
      omega
theorem szRows (l : List (List Int)) (hl : l.length ≤ 9223372036854775807) (hm : ∀ a ∈ l, a.length ≤ 9223372036854775807) : ∃ v, Ev (fun k => laws_szInt64SS.f k l 1048576) v ∧ (v < 0 ∨ 0 ≤ v ∧ l.length + sumL l ≤ 1048576) := by
  unfold laws_szInt64SS.f
  rw [w64 (by omega) (by omega)]
  by_cases h : (1048576 : Int) - (l.length : Int) < 0
  · exact ⟨-1, Ev.ite_pos h (Ev.now _), .inl (by decide)⟩
  · have key : ∀ d i (a : Int), i + d = l.length → 0 ≤ a → a ≤ 1048576 → ∃ v, Ev (fun k => laws_szInt64SS.l0 k l a (i : Int)) v ∧ (v < 0 ∨ 0 ≤ v ∧ v + sumL (l.drop i) = a) := by
      intro d
      induction d with
      | zero =>
        intro i a hi h0 h1
        obtain rfl : i = l.length := by omega
        exact ⟨a, Ev.step (fun k => laws_szInt64SS.l0.eq_2 _ _ _ _) (Ev.ite_neg (by omega) (Ev.now _)), .inr ⟨h0, by simp [sumL]⟩⟩
      | succ d ih =>
        intro i a hi h0 h1
        have hlt : i < l.length := by omega
        have hz := hm _ (List.getElem_mem hlt)
        have hs : sumL (l.drop i) = l[i].length + sumL (l.drop (i + 1)) := by rw [List.drop_eq_getElem_cons hlt, sumL_cons]
        by_cases hc : a - (l[i].length : Int) < 0
        · refine ⟨-1, Ev.step (fun k => laws_szInt64SS.l0.eq_2 _ _ _ _) (Ev.ite_pos (by omega) (Ev.ite_pos (ge0 _) (Ev.call (a := -1) ?_ (Ev.ite_pos (by decide) (Ev.now _))))), .inl (by decide)⟩
          unfold laws_szInt64S.f
          rw [rdL_get hlt, w64 (by omega) (by omega), if_pos hc]
        · obtain ⟨v, hv, hr⟩ := ih (i + 1) (a - (l[i].length : Int)) (by omega) (by omega) (by omega)
          refine ⟨v, Ev.step (fun k => laws_szInt64SS.l0.eq_2 _ _ _ _) (Ev.ite_pos (by omega) (Ev.ite_pos (ge0 _) (Ev.call (a := a - (l[i].length : Int)) ?_ (Ev.ite_neg hc ?_)))), ?_⟩
          · unfold laws_szInt64S.f
            rw [rdL_get hlt, w64 (by omega) (by omega), if_neg hc]
          · rw [w64_succ (by omega)]
            exact hv
          · rcases hr with hr | ⟨h2, h3⟩
            · exact .inl hr
            · exact .inr ⟨h2, by rw [hs]; omega⟩
    obtain ⟨v, hv, hr⟩ := key l.length 0 ((1048576 : Int) - (l.length : Int)) (by omega) (by omega) (by omega)
    refine ⟨v, Ev.ite_neg h hv, ?_⟩
    rcases hr with hr | ⟨h2, h3⟩
    · exact .inl hr
    · rw [List.drop_zero] at h3
      exact .inr ⟨h2, by omega⟩
theorem toRows (l : List (List Int)) (h : l.length + sumL l ≤ 1048576) : Ev (fun k => laws_toInt64SS.f k l) l := by
  unfold laws_toInt64SS.f
  refine Ev.ite_pos (ge0 _) (Ev.ite_pos (by rw [Int.toNat_natCast]; omega) ?_)
  refine Ev.run (L := fun k s (i : Nat) => laws_toInt64SS.l0 k l s i) l.length (fun i s => s.set i (rd_L1 l (i : Int))) (fun i s => s.length = l.length ∧ s.take i = l.take i) l ?_ ?_ (d := l.length) (i := 0) (by omega) ⟨by simp, by simp⟩
  · rintro i s hi ⟨h1, h2⟩
    have hz := sumL_mem (List.getElem_mem hi)
    refine ⟨⟨by simpa using h1, ?_⟩, fun r hr => Ev.step (fun k => laws_toInt64SS.l0.eq_2 _ _ _ _) ?_⟩
    · show (s.set i (rd_L1 l (i : Int))).take (i + 1) = _
      rw [rdL_get hi]
      exact take_set_succ h1 hi h2
    · rw [rdL_get hi] at hr ⊢
      refine Ev.ite_pos (by omega) (Ev.ite_pos (ge0 _) (Ev.bind (toInts l[i] (by omega)) (Ev.ite_pos (by omega) ?_)))
      rw [w64_succ (by omega), Int.toNat_natCast]
      exact hr
  · rintro s ⟨h1, h2⟩
    refine Ev.step (fun k => laws_toInt64SS.l0.eq_2 _ _ _ _) (Ev.ite_neg (by omega) ?_)
    rw [List.take_of_length_le (by omega), List.take_of_length_le (Nat.le_refl _)] at h2
    rw [h2]
    exact Ev.now l
theorem eqRows (l : List (List Int)) (h : l.length + sumL l ≤ 4611686018427387904) : Ev (fun k => laws_eqInt64SS.f k l l) true := by
  unfold laws_eqInt64SS.f
  refine Ev.ite_pos rfl ?_
  refine Ev.run (L := fun k (_ : Unit) (i : Nat) => laws_eqInt64SS.l0 k l l i) l.length (fun _ s => s) (fun _ _ => True) true ?_ ?_ (d := l.length) (i := 0) (s := ()) (by omega) trivial
  · rintro i s hi _
    have hz := sumL_mem (List.getElem_mem hi)
    refine ⟨trivial, fun r hr => Ev.step (fun k => laws_eqInt64SS.l0.eq_2 _ _ _ _) ?_⟩
    rw [rdL_get hi]
    refine Ev.ite_pos (by omega) (Ev.ite_pos (ge0 _) (Ev.ite_pos (by omega) (Ev.bind (eqInts l[i] (by omega)) (Ev.ite_pos rfl ?_))))
    rw [w64_succ (by omega)]
    exact hr
  · intro s _
    exact Ev.step (fun k => laws_eqInt64SS.l0.eq_2 _ _ _ _) (Ev.ite_neg (by omega) (Ev.now true))
end Go.Proofs.Ytbjjejlegboheaa.Q
