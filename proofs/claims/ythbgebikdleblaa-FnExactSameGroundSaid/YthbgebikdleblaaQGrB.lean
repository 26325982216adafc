/- The functions on arrays of whole numbers and on rows of such arrays: copied and compared. -/
import Derived.Test.YthbgebikdleblaaQGrA
namespace Go.Proofs.Ythbgebikdleblaa.Q
open Go.RowKit Go.Proofs.YthbgebikdleblaaW.PrintWords Go.Proofs.YthbgebikdleblaaW.PrintLast Go.Proofs.YthbgebikdleblaaW.PrintMore
set_option linter.unusedVariables false
set_option linter.unusedSimpArgs false
namespace Gr
theorem zero9 : (Try.prog.info? 24).map (fun i => i.zero) = some (some (.agg (ints (arrZ 9)).toArray)) := by kernel_rfl
theorem size9 : (Try.prog.info? 24).map (·.size) = some 9 := by kernel_rfl
theorem zero81 : (Try.prog.info? 25).map (fun i => i.zero) = some (some (.agg (ints (arrZ 81)).toArray)) := by kernel_rfl
theorem size81 : (Try.prog.info? 25).map (·.size) = some 81 := by kernel_rfl
set_option maxHeartbeats 8000000 in
set_option maxRecDepth 100000 in
/-- laws.toInt16A9 -/
theorem toRow (l : List Int) (hl : l.length = 9) (w : World) : Calls Try.prog 16 #[.agg (ints l).toArray] w fun e w' => e = .returned (.agg (ints l).toArray) ∧ Below w.heap.size w w' := by
  have hu24 := Try.underlying24
  have HL := Aside0.mk hl
  clear hl
  have HB := Aside0.mk (Below.refl w.heap.size w)
  go_enter Try.func16, Try.ntmps16
  go_wp2_with (first | ((with_reducible refine gate_dst (N := 1) rfl ?_); refine Gr.box_seg ?hg (N := 1) ?hd (t := 24) (x := .tmp 0) (cs := ints l) ?ho ?hx ?_; (case hg => rfl); (case hd => rfl); (case ho => rfl); (case hx => rfl); intro g1 hg w1 hb hB; have HB1 := Aside0.mk (below_step HB.out hB); have BK1 := Aside0.mk hb; have GE1 := Aside0.mk (show w.heap.size ≤ g1 by rw [hg]; exact below_size HB.out); clear HB hB hb hg) | ((with_reducible refine gate_dst (N := 2) rfl ?_); refine Gr.alloc_seg ?hg (N := 2) ?hd (t := 24) (cs := ints (arrZ 9)) ?ho Gr.zero9 ?_; (case hg => rfl); (case hd => rfl); (case ho => rfl); intro g2 hg w2 hb hB; have NE12 := Aside0.mk (show g1 ≠ g2 by rw [hg]; exact Nat.ne_of_lt (blk_lt BK1.out)); have GE2 := Aside0.mk (show w.heap.size ≤ g2 by rw [hg]; exact below_size HB1.out); have BK1' := Aside0.mk (blk_below BK1.out hB); have HB2 := Aside0.mk (below_step HB1.out hB); have BK2 := Aside0.mk hb; clear HB1 hB hb hg BK1) | ((with_reducible refine gate_dst (N := 3) rfl ?_); refine Gr.alloc_seg ?hg (N := 3) ?hd (t := 24) (cs := ints (arrZ 9)) ?ho Gr.zero9 ?_; (case hg => rfl); (case hd => rfl); (case ho => rfl); intro g3 hg w3 hb hB; have NE13 := Aside0.mk (show g1 ≠ g3 by rw [hg]; exact Nat.ne_of_lt (blk_lt BK1'.out)); have NE23 := Aside0.mk (show g2 ≠ g3 by rw [hg]; exact Nat.ne_of_lt (blk_lt BK2.out)); have GE3 := Aside0.mk (show w.heap.size ≤ g3 by rw [hg]; exact below_size HB2.out); have BK1 := Aside0.mk (blk_below BK1'.out hB); have BK2' := Aside0.mk (blk_below BK2.out hB); have HB3 := Aside0.mk (below_step HB2.out hB); have BK3 := Aside0.mk hb; clear HB2 hB hb hg BK1' BK2))
  go_loopw [4] (fun v4 wr => ∃ i : Nat, v4 = .int .i64 i ∧ i ≤ 9 ∧ Aside0 (wr.heap[g1]? = some (.cells (ints l).toArray 24 (0, 0))) ∧ Aside0 (wr.heap[g2]? = some (.cells (ints (arrZ 9)).toArray 24 (0, 0))) ∧ Aside0 (wr.heap[g3]? = some (.cells (ints (l.take i ++ (arrZ 9).drop i)).toArray 24 (0, 0))) ∧ Aside0 (Below w.heap.size w wr)) (fun v4 _ => 9 - (intOf v4).toNat)
  case atStart => exact ⟨0, rfl, Nat.zero_le _, BK1, BK2', BK3, HB3⟩
  case round =>
    obtain ⟨i, rfl, hi, K1, K2, K3, HBr⟩ := hrel
    by_cases hlt : i < 9
    · have hx1 : wr.cell? ⟨g1, i, none⟩ = some (.int .i16 (rd l i)) := by
        rw [cell_of K1.out, ints_get (by have := HL.out; omega)]
        simp [rd, List.getElem?_eq_getElem (show i < l.length by have := HL.out; omega)]
      have q0 : (0 ≤ (i : Int)) = True := eq_true (by omega)
      have q1 : ((i : Int) < 9) = True := eq_true (by omega)
      have HF := Aside0.mk (fill_step (l := l) (z := arrZ 9) (p := i) (m := 1) (by have := HL.out; omega) (by rw [arrZ_length]; exact HL.out.symm))
      have HX := Aside0.mk (ints_rd (l := l) (i := i) (by have := HL.out; omega))
      go_wp2_with (((with_reducible refine gate_store (t := 23) (p := 13) rfl ?_); refine Gr.store_seg ?hg ?hn (t := 23) (te := 24) (p := 13) (v := .tmp 12) ?ho (g := g3) (off := i) (cs := ints (l.take i ++ (arrZ 9).drop i)) (seg := [.int .i16 (rd l i)]) (u := .int .i16 (rd l i)) ?hp ?hv rfl K3.out ?hfit (by kernel_rfl) ?h1 ?_; (case hg => rfl); (case hn => rfl); (case ho => rfl); (case hp => rfl); (case hv => rfl); (case hfit => rw [ints_length, List.length_append, List.length_take, List.length_drop, arrZ_length, HL.out]; show i + 1 ≤ _; omega); (case h1 => intro q hq; obtain rfl := List.mem_singleton.1 hq; rfl); intro w4 hgr hb; have K1' := Aside0.mk (Gr.blk_grown K1.out hgr NE13.out); have K2' := Aside0.mk (Gr.blk_grown K2.out hgr NE23.out); have HBr' := Aside0.mk (Gr.below_grown HBr.out hgr (below_size HBr.out) GE3.out); rw [← HX.out, show i + (ints ((l.drop i).take 1)).length = i + 1 by rw [HX.out]; rfl, HF.out] at hb; have K3' := Aside0.mk hb; clear hb hgr K1 K2 K3 HBr))
      go_round
      case measure => simp [intOf]; omega
      case rel => exact ⟨i + 1, by simp, by omega, K1', K2', K3', HBr'⟩
    · obtain rfl : i = 9 := by omega
      have hl9 : l.take 9 ++ (arrZ 9).drop 9 = l := by rw [List.take_of_length_le (by have := HL.out; omega), List.drop_of_length_le (by rw [arrZ_length]; omega), List.append_nil]
      rw [hl9] at K3
      have HI := Aside0.mk (show (ints l).length = 9 by rw [ints_length]; exact HL.out)
      clear hl9
      go_wp2_with (first | ((with_reducible refine gate_dst (N := 14) rfl ?_); refine Gr.load_all ?hg (N := 14) ?hd (t := 24) (te := 24) (x := .tmp 3) ?ho (g := g3) (n := 9) (cs := ints l) ?hp K3.out HI.out Try.underlying24 rfl Gr.size9 ?_; (case hg => rfl); (case hd => rfl); (case ho => rfl); (case hp => rfl)) | ((with_reducible refine gate_store (t := 24) (p := 2) rfl ?_); refine Gr.store_all ?hg ?hn (t := 24) (te := 24) (p := 2) (v := .tmp 14) ?ho (g := g2) (n := 9) (cs := ints (arrZ 9)) (seg := ints l) ?hp ?hv K2.out (by kernel_rfl) HI.out Gr.size9 (ints_one l) ?_; (case hg => rfl); (case hn => rfl); (case ho => rfl); (case hp => rfl); (case hv => rfl); intro w4 hgr hb; have HBr' := Aside0.mk (Gr.below_grown HBr.out hgr (below_size HBr.out) GE2.out); have K2' := Aside0.mk hb; clear hb hgr K2 HBr))
      refine bodyPost_ret (results_cell_row rfl _ _ g2 24 (ints l).toArray (0, 0) _ rfl K2'.out Try.underlying24 rfl (by rw [List.size_toArray, HI.out]; exact Gr.size9)) rfl ?_
      exact ⟨rfl, HBr'.out⟩
set_option maxHeartbeats 8000000 in
set_option maxRecDepth 100000 in
/-- laws.toInt16A9A9 -/
theorem toGrid (l : List Int) (hl : l.length = 81) (w : World) : Calls Try.prog 11 #[.agg (ints l).toArray] w fun e w' => e = .returned (.agg (ints l).toArray) ∧ Below w.heap.size w w' := by
  have hu24 := Try.underlying25
  have HL := Aside0.mk hl
  clear hl
  have HB := Aside0.mk (Below.refl w.heap.size w)
  go_enter Try.func11, Try.ntmps11
  go_wp2_with (first | ((with_reducible refine gate_dst (N := 1) rfl ?_); refine Gr.box_seg ?hg (N := 1) ?hd (t := 25) (x := .tmp 0) (cs := ints l) ?ho ?hx ?_; (case hg => rfl); (case hd => rfl); (case ho => rfl); (case hx => rfl); intro g1 hg w1 hb hB; have HB1 := Aside0.mk (below_step HB.out hB); have BK1 := Aside0.mk hb; have GE1 := Aside0.mk (show w.heap.size ≤ g1 by rw [hg]; exact below_size HB.out); clear HB hB hb hg) | ((with_reducible refine gate_dst (N := 2) rfl ?_); refine Gr.alloc_seg ?hg (N := 2) ?hd (t := 25) (cs := ints (arrZ 81)) ?ho Gr.zero81 ?_; (case hg => rfl); (case hd => rfl); (case ho => rfl); intro g2 hg w2 hb hB; have NE12 := Aside0.mk (show g1 ≠ g2 by rw [hg]; exact Nat.ne_of_lt (blk_lt BK1.out)); have GE2 := Aside0.mk (show w.heap.size ≤ g2 by rw [hg]; exact below_size HB1.out); have BK1' := Aside0.mk (blk_below BK1.out hB); have HB2 := Aside0.mk (below_step HB1.out hB); have BK2 := Aside0.mk hb; clear HB1 hB hb hg BK1) | ((with_reducible refine gate_dst (N := 3) rfl ?_); refine Gr.alloc_seg ?hg (N := 3) ?hd (t := 25) (cs := ints (arrZ 81)) ?ho Gr.zero81 ?_; (case hg => rfl); (case hd => rfl); (case ho => rfl); intro g3 hg w3 hb hB; have NE13 := Aside0.mk (show g1 ≠ g3 by rw [hg]; exact Nat.ne_of_lt (blk_lt BK1'.out)); have NE23 := Aside0.mk (show g2 ≠ g3 by rw [hg]; exact Nat.ne_of_lt (blk_lt BK2.out)); have GE3 := Aside0.mk (show w.heap.size ≤ g3 by rw [hg]; exact below_size HB2.out); have BK1 := Aside0.mk (blk_below BK1'.out hB); have BK2' := Aside0.mk (blk_below BK2.out hB); have HB3 := Aside0.mk (below_step HB2.out hB); have BK3 := Aside0.mk hb; clear HB2 hB hb hg BK1' BK2))
  go_loopw [4] (fun v4 wr => ∃ i : Nat, v4 = .int .i64 i ∧ i ≤ 9 ∧ Aside0 (wr.heap[g1]? = some (.cells (ints l).toArray 25 (0, 0))) ∧ Aside0 (wr.heap[g2]? = some (.cells (ints (arrZ 81)).toArray 25 (0, 0))) ∧ Aside0 (wr.heap[g3]? = some (.cells (ints (l.take (i * 9) ++ (arrZ 81).drop (i * 9))).toArray 25 (0, 0))) ∧ Aside0 (Below w.heap.size w wr)) (fun v4 _ => 9 - (intOf v4).toNat)
  case atStart => exact ⟨0, rfl, Nat.zero_le _, BK1, BK2', BK3, HB3⟩
  case round =>
    obtain ⟨i, rfl, hi, K1, K2, K3, HBr⟩ := hrel
    by_cases hlt : i < 9
    · have hp1 : i * 9 + 9 ≤ l.length := by have := HL.out; omega
      have q0 : (0 ≤ (i : Int)) = True := eq_true (by omega)
      have q1 : ((i : Int) < 9) = True := eq_true (by omega)
      have HF := Aside0.mk (fill_step (l := l) (z := arrZ 81) (p := i * 9) (m := 9) hp1 (by rw [arrZ_length]; exact HL.out.symm))
      have HX := Aside0.mk (show (ints ((l.drop (i * 9)).take 9)).length = 9 by rw [ints_length, List.length_take, List.length_drop]; omega)
      have HR := Aside0.mk (toRow ((l.drop (i * 9)).take 9) (by rw [List.length_take, List.length_drop]; omega))
      have HS := Aside0.mk (show ((ints l).drop (i * 9)).take 9 = ints ((l.drop (i * 9)).take 9) by simp only [ints, List.map_take, List.map_drop])
      have HP := Aside0.mk hp1
      clear hp1
      go_wp2_with (first | ((with_reducible refine gate_dst (N := 12) rfl ?_); refine Gr.load_seg ?hg (N := 12) ?hd (t := 24) (te := 25) (x := .tmp 11) ?ho (g := g1) (off := i * 9) (n := 9) (cs := ints l) ?hp K1.out ?hfit Try.underlying24 rfl Gr.size9 ?_; (case hg => rfl); (case hd => rfl); (case ho => rfl); (case hp => rfl); (case hfit => rw [ints_length]; exact HP.out); rw [HS.out]) | (go_at_call 16; refine (HR.out _).mono ?_; rintro e w5 ⟨rfl, hB⟩; have K1' := Aside0.mk (blk_below K1.out hB); have K2' := Aside0.mk (blk_below K2.out hB); have K3' := Aside0.mk (blk_below K3.out hB); have HBr' := Aside0.mk (below_step HBr.out hB); clear hB K1 K2 K3 HBr) | ((with_reducible refine gate_store (t := 24) (p := 14) rfl ?_); refine Gr.store_seg ?hg ?hn (t := 24) (te := 25) (p := 14) (v := .tmp 13) ?ho (g := g3) (off := i * 9) (cs := ints (l.take (i * 9) ++ (arrZ 81).drop (i * 9))) (seg := ints ((l.drop (i * 9)).take 9)) (u := .agg (ints ((l.drop (i * 9)).take 9)).toArray) ?hp ?hv rfl K3'.out ?hfit ?hi (ints_one _) ?_; (case hg => rfl); (case hn => rfl); (case ho => rfl); (case hp => rfl); (case hv => rfl); (case hfit => rw [HX.out, ints_length, List.length_append, List.length_take, List.length_drop, arrZ_length, HL.out]; have := HP.out; have := HL.out; omega); (case hi => rw [HX.out]; exact Gr.size9); intro w4 hgr hb; have K1 := Aside0.mk (Gr.blk_grown K1'.out hgr NE13.out); have K2 := Aside0.mk (Gr.blk_grown K2'.out hgr NE23.out); have HBr := Aside0.mk (Gr.below_grown HBr'.out hgr (below_size HBr'.out) GE3.out); rw [HX.out, HF.out] at hb; have K3 := Aside0.mk hb; clear hb hgr K1' K2' K3' HBr'))
      go_round
      case measure => simp [intOf]; omega
      case rel => exact ⟨i + 1, by simp, by omega, K1, K2, by rw [show (i + 1) * 9 = i * 9 + 9 by omega]; exact K3, HBr⟩
    · obtain rfl : i = 9 := by omega
      have hl9 : l.take (9 * 9) ++ (arrZ 81).drop (9 * 9) = l := by rw [List.take_of_length_le (by have := HL.out; omega), List.drop_of_length_le (by rw [arrZ_length]; omega), List.append_nil]
      rw [hl9] at K3
      have HI := Aside0.mk (show (ints l).length = 81 by rw [ints_length]; exact HL.out)
      clear hl9
      go_wp2_with (first | ((with_reducible refine gate_dst (N := 15) rfl ?_); refine Gr.load_all ?hg (N := 15) ?hd (t := 25) (te := 25) (x := .tmp 3) ?ho (g := g3) (n := 81) (cs := ints l) ?hp K3.out HI.out Try.underlying25 rfl Gr.size81 ?_; (case hg => rfl); (case hd => rfl); (case ho => rfl); (case hp => rfl)) | ((with_reducible refine gate_store (t := 25) (p := 2) rfl ?_); refine Gr.store_all ?hg ?hn (t := 25) (te := 25) (p := 2) (v := .tmp 15) ?ho (g := g2) (n := 81) (cs := ints (arrZ 81)) (seg := ints l) ?hp ?hv K2.out (by kernel_rfl) HI.out Gr.size81 (ints_one l) ?_; (case hg => rfl); (case hn => rfl); (case ho => rfl); (case hp => rfl); (case hv => rfl); intro w4 hgr hb; have HBr' := Aside0.mk (Gr.below_grown HBr.out hgr (below_size HBr.out) GE2.out); have K2' := Aside0.mk hb; clear hb hgr K2 HBr))
      refine bodyPost_ret (results_cell_row rfl _ _ g2 25 (ints l).toArray (0, 0) _ rfl K2'.out Try.underlying25 rfl (by rw [List.size_toArray, HI.out]; exact Gr.size81)) rfl ?_
      exact ⟨rfl, HBr'.out⟩
end Gr
end Go.Proofs.Ythbgebikdleblaa.Q
