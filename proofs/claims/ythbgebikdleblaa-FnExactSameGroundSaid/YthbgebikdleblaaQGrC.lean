/- Arrays of whole numbers, and rows of such arrays, compared. -/
import Derived.Test.YthbgebikdleblaaQGrB
namespace Go.Proofs.Ythbgebikdleblaa.Q
open Go.RowKit Go.Proofs.YthbgebikdleblaaW.PrintWords Go.Proofs.YthbgebikdleblaaW.PrintLast Go.Proofs.YthbgebikdleblaaW.PrintMore
set_option linter.unusedVariables false
set_option linter.unusedSimpArgs false
namespace Gr
theorem take_one {l m : List Int} {i : Nat} (h : i < l.length) (h2 : i < m.length) (ht : l.take i = m.take i) (hr : rd l (i : Int) = rd m (i : Int)) : l.take (i + 1) = m.take (i + 1) := by
  rw [List.take_succ_eq_append_getElem h, List.take_succ_eq_append_getElem h2, ht]
  have e1 : rd l (i : Int) = l[i] := by simp [rd, h]
  have e2 : rd m (i : Int) = m[i] := by simp [rd, h2]
  rw [← e1, ← e2, hr]
set_option maxHeartbeats 8000000 in
set_option maxRecDepth 100000 in
/-- laws.eqInt16A9 -/
theorem eqRow (l m : List Int) (hl : l.length = 9) (hm : m.length = 9) (w : World) : Calls Try.prog 18 #[.agg (ints l).toArray, .agg (ints m).toArray] w fun e w' => e = .returned (.bool (decide (l = m))) ∧ Below w.heap.size w w' := by
  have hu24 := Try.underlying24
  have HL := Aside0.mk hl
  have HM := Aside0.mk hm
  clear hl hm
  have HB := Aside0.mk (Below.refl w.heap.size w)
  go_enter Try.func18, Try.ntmps18
  go_wp2_with (first | ((with_reducible refine gate_dst (N := 2) rfl ?_); refine Gr.box_seg ?hg (N := 2) ?hd (t := 24) (x := .tmp 0) (cs := ints l) ?ho ?hx ?_; (case hg => rfl); (case hd => rfl); (case ho => rfl); (case hx => rfl); intro g1 hg w1 hb hB; have HB1 := Aside0.mk (below_step HB.out hB); have BK1 := Aside0.mk hb; clear HB hB hb hg) | ((with_reducible refine gate_dst (N := 3) rfl ?_); refine Gr.box_seg ?hg (N := 3) ?hd (t := 24) (x := .tmp 1) (cs := ints m) ?ho ?hx ?_; (case hg => rfl); (case hd => rfl); (case ho => rfl); (case hx => rfl); intro g2 hg w2 hb hB; have BK1' := Aside0.mk (blk_below BK1.out hB); have HB2 := Aside0.mk (below_step HB1.out hB); have BK2 := Aside0.mk hb; clear HB1 hB hb hg BK1))
  go_loopw [5] (fun v5 wr => ∃ i : Nat, v5 = .int .i64 i ∧ i ≤ 9 ∧ Aside0 (l.take i = m.take i) ∧ Aside0 (wr.heap[g1]? = some (.cells (ints l).toArray 24 (0, 0))) ∧ Aside0 (wr.heap[g2]? = some (.cells (ints m).toArray 24 (0, 0))) ∧ Aside0 (Below w.heap.size w wr)) (fun v5 _ => 9 - (intOf v5).toNat)
  case atStart => exact ⟨0, rfl, Nat.zero_le _, ⟨rfl⟩, BK1', BK2, HB2⟩
  case round =>
    obtain ⟨i, rfl, hi, HT, K1, K2, HBr⟩ := hrel
    by_cases hlt : i < 9
    · have hx1 : wr.cell? ⟨g1, i, none⟩ = some (.int .i16 (rd l i)) := by
        rw [cell_of K1.out, ints_get (by have := HL.out; omega)]
        simp [rd, List.getElem?_eq_getElem (show i < l.length by have := HL.out; omega)]
      have hx2 : wr.cell? ⟨g2, i, none⟩ = some (.int .i16 (rd m i)) := by
        rw [cell_of K2.out, ints_get (by have := HM.out; omega)]
        simp [rd, List.getElem?_eq_getElem (show i < m.length by have := HM.out; omega)]
      have q0 : (0 ≤ (i : Int)) = True := eq_true (by omega)
      have q1 : ((i : Int) < 9) = True := eq_true (by omega)
      by_cases c : rd l (i : Int) = rd m (i : Int)
      · have c0 : (rd l (i : Int) == rd m (i : Int)) = true := beq_iff_eq.mpr c
        have c1 : (rd l (i : Int) != rd m (i : Int)) = false := bne_eq_false_iff_eq.mpr c
        have HT' := Aside0.mk (take_one (by have := HL.out; omega) (by have := HM.out; omega) HT.out c)
        clear c
        go_wp2
        go_region
        go_wp2
        go_round
        case measure => simp [intOf]; omega
        case rel => exact ⟨i + 1, by simp, by omega, HT', K1, K2, ⟨below_drew1 HBr.out⟩⟩
      · have c0 : (rd l (i : Int) == rd m (i : Int)) = false := beq_eq_false_iff_ne.mpr c
        have c1 : (rd l (i : Int) != rd m (i : Int)) = true := bne_iff_ne.mpr c
        have HN := Aside0.mk (show l ≠ m from fun e => c (by rw [e]))
        clear c
        go_wp2
        go_region
        go_wp2
        go_ret
        exact ⟨by rw [decide_eq_false HN.out]; rfl, below_drew1 HBr.out⟩
    · obtain rfl : i = 9 := by omega
      have HE := Aside0.mk (show l = m by have h := HT.out; rwa [List.take_of_length_le (by have := HL.out; omega), List.take_of_length_le (by have := HM.out; omega)] at h)
      go_wp2
      go_ret
      exact ⟨by rw [decide_eq_true HE.out]; rfl, HBr.out⟩
theorem row_take (l m : List Int) (i : Nat) (ht : l.take (i * 9) = m.take (i * 9)) (hr : (l.drop (i * 9)).take 9 = (m.drop (i * 9)).take 9) : l.take ((i + 1) * 9) = m.take ((i + 1) * 9) := by
  rw [show (i + 1) * 9 = i * 9 + 9 by omega, List.take_add, List.take_add, ht, hr]
set_option maxHeartbeats 8000000 in
set_option maxRecDepth 100000 in
/-- laws.eqInt16A9A9 -/
theorem eqGrid (l m : List Int) (hl : l.length = 81) (hm : m.length = 81) (w : World) : Calls Try.prog 14 #[.agg (ints l).toArray, .agg (ints m).toArray] w fun e w' => e = .returned (.bool (decide (l = m))) ∧ Below w.heap.size w w' := by
  have hu25 := Try.underlying25
  have HL := Aside0.mk hl
  have HM := Aside0.mk hm
  clear hl hm
  have HB := Aside0.mk (Below.refl w.heap.size w)
  go_enter Try.func14, Try.ntmps14
  go_wp2_with (first | ((with_reducible refine gate_dst (N := 2) rfl ?_); refine Gr.box_seg ?hg (N := 2) ?hd (t := 25) (x := .tmp 0) (cs := ints l) ?ho ?hx ?_; (case hg => rfl); (case hd => rfl); (case ho => rfl); (case hx => rfl); intro g1 hg w1 hb hB; have HB1 := Aside0.mk (below_step HB.out hB); have BK1 := Aside0.mk hb; clear HB hB hb hg) | ((with_reducible refine gate_dst (N := 3) rfl ?_); refine Gr.box_seg ?hg (N := 3) ?hd (t := 25) (x := .tmp 1) (cs := ints m) ?ho ?hx ?_; (case hg => rfl); (case hd => rfl); (case ho => rfl); (case hx => rfl); intro g2 hg w2 hb hB; have BK1' := Aside0.mk (blk_below BK1.out hB); have HB2 := Aside0.mk (below_step HB1.out hB); have BK2 := Aside0.mk hb; clear HB1 hB hb hg BK1))
  go_loopw [5] (fun v5 wr => ∃ i : Nat, v5 = .int .i64 i ∧ i ≤ 9 ∧ Aside0 (l.take (i * 9) = m.take (i * 9)) ∧ Aside0 (wr.heap[g1]? = some (.cells (ints l).toArray 25 (0, 0))) ∧ Aside0 (wr.heap[g2]? = some (.cells (ints m).toArray 25 (0, 0))) ∧ Aside0 (Below w.heap.size w wr)) (fun v5 _ => 9 - (intOf v5).toNat)
  case atStart => exact ⟨0, rfl, Nat.zero_le _, ⟨rfl⟩, BK1', BK2, HB2⟩
  case round =>
    obtain ⟨i, rfl, hi, HT, K1, K2, HBr⟩ := hrel
    by_cases hlt : i < 9
    · have hl9 : ((l.drop (i * 9)).take 9).length = 9 := by rw [List.length_take, List.length_drop]; have := HL.out; omega
      have hm9 : ((m.drop (i * 9)).take 9).length = 9 := by rw [List.length_take, List.length_drop]; have := HM.out; omega
      have S1 := Aside0.mk (show ((ints l).drop (i * 9)).take 9 = ints ((l.drop (i * 9)).take 9) by simp only [ints, List.map_take, List.map_drop])
      have S2 := Aside0.mk (show ((ints m).drop (i * 9)).take 9 = ints ((m.drop (i * 9)).take 9) by simp only [ints, List.map_take, List.map_drop])
      have L1 := Aside0.mk (show (ints ((l.drop (i * 9)).take 9)).length = 9 by rw [ints_length]; exact hl9)
      have L2 := Aside0.mk (show (ints ((m.drop (i * 9)).take 9)).length = 9 by rw [ints_length]; exact hm9)
      have HE := Aside0.mk (eqRow _ _ hl9 hm9)
      clear hl9 hm9
      have q0 : (0 ≤ (i : Int)) = True := eq_true (by omega)
      have q1 : ((i : Int) < 9) = True := eq_true (by omega)
      have K1' := Aside0.mk (blk_drew K1.out)
      have K2' := Aside0.mk (blk_drew K2.out)
      have HBr' := Aside0.mk (below_drew1 HBr.out)
      clear K1 K2 HBr
      by_cases c : (l.drop (i * 9)).take 9 = (m.drop (i * 9)).take 9
      · have HT' := Aside0.mk (row_take l m i HT.out c)
        rw [decide_eq_true c] at HE
        clear c
        go_wp2
        refine start_ (n := 8) (S := fun w' => w'.heap[g1]? = some (.cells (ints l).toArray 25 (0, 0)) ∧ w'.heap[g2]? = some (.cells (ints m).toArray 25 (0, 0))) (ds := []) #[false, false, false, false, false, false, false, false] (by kernel_rfl) rfl rfl ⟨K1'.out, K2'.out⟩ (fun hHeld => ?_)
        generalize wr.drew = w39 at K1' K2' HBr' hHeld ⊢
        refine pure_ (i := 0) (N := some 10) (v := ?_) (a' := ?_) #[true, false, false, false, false, false, false, false] rfl rfl (by kernel_rfl) (fun _ _ _ h => h) (Or.inl ⟨by rfl, ?_⟩) ?_ ?_
        rotate_left
        · intro w'
          go_simp
          with_reducible rfl
        rotate_left
        · simp only [Act.put, List.setIfInBounds_toArray, List.set_cons_zero, List.set_cons_succ, i64_w, i32_w]
          rfl
        refine pure_ (i := 1) (N := some 11) (v := ?_) (a' := ?_) #[true, true, false, false, false, false, false, false] rfl rfl (by kernel_rfl) (fun _ _ _ h => h) (Or.inl ⟨by rfl, ?_⟩) ?_ ?_
        rotate_left
        · intro w'
          go_simp
          with_reducible rfl
        rotate_left
        · simp only [Act.put, List.setIfInBounds_toArray, List.set_cons_zero, List.set_cons_succ, i64_w, i32_w]
          rfl
        refine take_ (i := 2) (N := some 12) (v := .agg (ints ((l.drop (i * 9)).take 9)).toArray) (a' := ?_) #[true, true, true, false, false, false, false, false] rfl rfl (by kernel_rfl) (fun _ _ _ h => h) (Or.inl ⟨by rfl, fun w' s => load_run (t := 24) (te := 25) (x := .tmp 11) rfl (g := g1) (off := i * 9) (n := 9) rfl s.1 S1.out L1.out Try.underlying24 rfl size9⟩) hHeld ?_ ?_
        rotate_left
        · simp only [Act.put, List.setIfInBounds_toArray, List.set_cons_zero, List.set_cons_succ, i64_w, i32_w]
          rfl
        refine pure_ (i := 3) (N := some 13) (v := ?_) (a' := ?_) #[true, true, true, true, false, false, false, false] rfl rfl (by kernel_rfl) (fun _ _ _ h => h) (Or.inl ⟨by rfl, ?_⟩) ?_ ?_
        rotate_left
        · intro w'
          go_simp
          with_reducible rfl
        rotate_left
        · simp only [Act.put, List.setIfInBounds_toArray, List.set_cons_zero, List.set_cons_succ, i64_w, i32_w]
          rfl
        refine pure_ (i := 4) (N := some 14) (v := ?_) (a' := ?_) #[true, true, true, true, true, false, false, false] rfl rfl (by kernel_rfl) (fun _ _ _ h => h) (Or.inl ⟨by rfl, ?_⟩) ?_ ?_
        rotate_left
        · intro w'
          go_simp
          with_reducible rfl
        rotate_left
        · simp only [Act.put, List.setIfInBounds_toArray, List.set_cons_zero, List.set_cons_succ, i64_w, i32_w]
          rfl
        refine take_ (i := 5) (N := some 15) (v := .agg (ints ((m.drop (i * 9)).take 9)).toArray) (a' := ?_) #[true, true, true, true, true, true, false, false] rfl rfl (by kernel_rfl) (fun _ _ _ h => h) (Or.inl ⟨by rfl, fun w' s => load_run (t := 24) (te := 25) (x := .tmp 14) rfl (g := g2) (off := i * 9) (n := 9) rfl s.2 S2.out L2.out Try.underlying24 rfl size9⟩) hHeld ?_ ?_
        rotate_left
        · simp only [Act.put, List.setIfInBounds_toArray, List.set_cons_zero, List.set_cons_succ, i64_w, i32_w]
          rfl
        refine one_ (i := 6) (N := some 16) #[true, true, true, true, true, true, true, false] rfl rfl (by kernel_rfl) (by decide) (fun K hK => ?_)
        refine goes_ Try.func18 (by kernel_rfl) rfl #[.agg (ints ((l.drop (i * 9)).take 9)).toArray, .agg (ints ((m.drop (i * 9)).take 9)).toArray] (by rfl) rfl rfl (by (try simp only [List.map_toArray, List.map_cons, List.map_nil]); first | done | rfl) ?_
        refine (HE.out _).mono ?_
        rintro e w5 ⟨rfl, hB⟩
        refine ⟨_, rfl, ?_⟩
        have K1 := Aside0.mk (blk_below K1'.out hB)
        have K2 := Aside0.mk (blk_below K2'.out hB)
        have HBr := Aside0.mk (below_step HBr'.out hB)
        clear hB K1' K2' HBr'
        refine hK.out _ _ ⟨K1.out, K2.out⟩ (fun hHeld => ?_)
        clear hK K
        refine norm_ (a' := ?_) ?_ ?_
        rotate_left
        · show Act.put _ (some 16) _ = _
          simp only [Act.put, List.setIfInBounds_toArray, List.set_cons_zero, List.set_cons_succ, i64_w, i32_w]
          rfl
        refine pure_ (i := 7) (N := some 17) (v := ?_) (a' := ?_) #[true, true, true, true, true, true, true, true] rfl rfl (by kernel_rfl) (fun _ _ _ h => h) (Or.inl ⟨by rfl, ?_⟩) ?_ ?_
        rotate_left
        · intro w'
          go_simp
          with_reducible rfl
        rotate_left
        · simp only [Act.put, List.setIfInBounds_toArray, List.set_cons_zero, List.set_cons_succ, i64_w, i32_w]
          rfl
        refine done_ (by kernel_rfl) ?_
        go_wp2
        go_round
        case measure => simp [intOf]; omega
        case rel => exact ⟨i + 1, by simp, by omega, HT', K1, K2, HBr⟩
      · have HN := Aside0.mk (show l ≠ m from fun e => c (by rw [e]))
        rw [decide_eq_false c] at HE
        clear c
        go_wp2
        refine start_ (n := 8) (S := fun w' => w'.heap[g1]? = some (.cells (ints l).toArray 25 (0, 0)) ∧ w'.heap[g2]? = some (.cells (ints m).toArray 25 (0, 0))) (ds := []) #[false, false, false, false, false, false, false, false] (by kernel_rfl) rfl rfl ⟨K1'.out, K2'.out⟩ (fun hHeld => ?_)
        generalize wr.drew = w39 at K1' K2' HBr' hHeld ⊢
        refine pure_ (i := 0) (N := some 10) (v := ?_) (a' := ?_) #[true, false, false, false, false, false, false, false] rfl rfl (by kernel_rfl) (fun _ _ _ h => h) (Or.inl ⟨by rfl, ?_⟩) ?_ ?_
        rotate_left
        · intro w'
          go_simp
          with_reducible rfl
        rotate_left
        · simp only [Act.put, List.setIfInBounds_toArray, List.set_cons_zero, List.set_cons_succ, i64_w, i32_w]
          rfl
        refine pure_ (i := 1) (N := some 11) (v := ?_) (a' := ?_) #[true, true, false, false, false, false, false, false] rfl rfl (by kernel_rfl) (fun _ _ _ h => h) (Or.inl ⟨by rfl, ?_⟩) ?_ ?_
        rotate_left
        · intro w'
          go_simp
          with_reducible rfl
        rotate_left
        · simp only [Act.put, List.setIfInBounds_toArray, List.set_cons_zero, List.set_cons_succ, i64_w, i32_w]
          rfl
        refine take_ (i := 2) (N := some 12) (v := .agg (ints ((l.drop (i * 9)).take 9)).toArray) (a' := ?_) #[true, true, true, false, false, false, false, false] rfl rfl (by kernel_rfl) (fun _ _ _ h => h) (Or.inl ⟨by rfl, fun w' s => load_run (t := 24) (te := 25) (x := .tmp 11) rfl (g := g1) (off := i * 9) (n := 9) rfl s.1 S1.out L1.out Try.underlying24 rfl size9⟩) hHeld ?_ ?_
        rotate_left
        · simp only [Act.put, List.setIfInBounds_toArray, List.set_cons_zero, List.set_cons_succ, i64_w, i32_w]
          rfl
        refine pure_ (i := 3) (N := some 13) (v := ?_) (a' := ?_) #[true, true, true, true, false, false, false, false] rfl rfl (by kernel_rfl) (fun _ _ _ h => h) (Or.inl ⟨by rfl, ?_⟩) ?_ ?_
        rotate_left
        · intro w'
          go_simp
          with_reducible rfl
        rotate_left
        · simp only [Act.put, List.setIfInBounds_toArray, List.set_cons_zero, List.set_cons_succ, i64_w, i32_w]
          rfl
        refine pure_ (i := 4) (N := some 14) (v := ?_) (a' := ?_) #[true, true, true, true, true, false, false, false] rfl rfl (by kernel_rfl) (fun _ _ _ h => h) (Or.inl ⟨by rfl, ?_⟩) ?_ ?_
        rotate_left
        · intro w'
          go_simp
          with_reducible rfl
        rotate_left
        · simp only [Act.put, List.setIfInBounds_toArray, List.set_cons_zero, List.set_cons_succ, i64_w, i32_w]
          rfl
        refine take_ (i := 5) (N := some 15) (v := .agg (ints ((m.drop (i * 9)).take 9)).toArray) (a' := ?_) #[true, true, true, true, true, true, false, false] rfl rfl (by kernel_rfl) (fun _ _ _ h => h) (Or.inl ⟨by rfl, fun w' s => load_run (t := 24) (te := 25) (x := .tmp 14) rfl (g := g2) (off := i * 9) (n := 9) rfl s.2 S2.out L2.out Try.underlying24 rfl size9⟩) hHeld ?_ ?_
        rotate_left
        · simp only [Act.put, List.setIfInBounds_toArray, List.set_cons_zero, List.set_cons_succ, i64_w, i32_w]
          rfl
        refine one_ (i := 6) (N := some 16) #[true, true, true, true, true, true, true, false] rfl rfl (by kernel_rfl) (by decide) (fun K hK => ?_)
        refine goes_ Try.func18 (by kernel_rfl) rfl #[.agg (ints ((l.drop (i * 9)).take 9)).toArray, .agg (ints ((m.drop (i * 9)).take 9)).toArray] (by rfl) rfl rfl (by (try simp only [List.map_toArray, List.map_cons, List.map_nil]); first | done | rfl) ?_
        refine (HE.out _).mono ?_
        rintro e w5 ⟨rfl, hB⟩
        refine ⟨_, rfl, ?_⟩
        have K1 := Aside0.mk (blk_below K1'.out hB)
        have K2 := Aside0.mk (blk_below K2'.out hB)
        have HBr := Aside0.mk (below_step HBr'.out hB)
        clear hB K1' K2' HBr'
        refine hK.out _ _ ⟨K1.out, K2.out⟩ (fun hHeld => ?_)
        clear hK K
        refine norm_ (a' := ?_) ?_ ?_
        rotate_left
        · show Act.put _ (some 16) _ = _
          simp only [Act.put, List.setIfInBounds_toArray, List.set_cons_zero, List.set_cons_succ, i64_w, i32_w]
          rfl
        refine pure_ (i := 7) (N := some 17) (v := ?_) (a' := ?_) #[true, true, true, true, true, true, true, true] rfl rfl (by kernel_rfl) (fun _ _ _ h => h) (Or.inl ⟨by rfl, ?_⟩) ?_ ?_
        rotate_left
        · intro w'
          go_simp
          with_reducible rfl
        rotate_left
        · simp only [Act.put, List.setIfInBounds_toArray, List.set_cons_zero, List.set_cons_succ, i64_w, i32_w]
          rfl
        refine done_ (by kernel_rfl) ?_
        go_wp2
        go_ret
        exact ⟨by rw [decide_eq_false HN.out]; rfl, HBr.out⟩
    · obtain rfl : i = 9 := by omega
      have HE := Aside0.mk (show l = m by have h := HT.out; rwa [List.take_of_length_le (by have := HL.out; omega), List.take_of_length_le (by have := HM.out; omega)] at h)
      go_wp2
      go_ret
      exact ⟨by rw [decide_eq_true HE.out]; rfl, HBr.out⟩
end Gr
end Go.Proofs.Ythbgebikdleblaa.Q
