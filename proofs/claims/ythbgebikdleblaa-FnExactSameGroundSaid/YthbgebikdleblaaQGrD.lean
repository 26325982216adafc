/- The functions on a ground: measured, copied, compared. -/
import Derived.Test.YthbgebikdleblaaQGrC
import Derived.Test.YthbgebikdleblaaQGrE
import Derived.Test.YthbgebikdleblaaQHCell
import Derived.Test.YthbgebikdleblaaQ1
namespace Go.Proofs.Ythbgebikdleblaa.Q
open Go.RowKit Go.Proofs.YthbgebikdleblaaW.PrintWords Go.Proofs.YthbgebikdleblaaW.PrintLast Go.Proofs.YthbgebikdleblaaW.PrintMore
set_option linter.unusedVariables false
set_option linter.unusedSimpArgs false
namespace Gr
theorem zero33 : (Try.prog.info? 33).map (fun i => i.zero) = some (some (.agg (G84 0 0 (arrZ 81) (.slice none 0 0)).toArray)) := by kernel_rfl
theorem size33 : (Try.prog.info? 33).map (·.size) = some 84 := by kernel_rfl
theorem size28 : (Try.prog.info? 28).map (·.size) = some 84 := by kernel_rfl
theorem size22 : (Try.prog.info? 22).map (·.size) = some 1 := by kernel_rfl
theorem size31 : (Try.prog.info? 31).map (·.size) = some 1 := by kernel_rfl
theorem G84_one {a b : Int} {h : List Int} {s : Value} (hs : s.oneCell' = true) : ∀ q ∈ G84 a b h s, q.oneCell' = true := by
  intro q hq
  unfold G84 at hq
  rcases List.mem_cons.1 hq with rfl | hq
  · rfl
  · rcases List.mem_cons.1 hq with rfl | hq
    · rfl
    · rcases List.mem_append.1 hq with hq | hq
      · exact ints_one h q hq
      · obtain rfl := List.mem_singleton.1 hq
        exact hs
theorem z81 : (arrZ 81).length = 81 := arrZ_length 81
set_option maxHeartbeats 8000000 in
set_option maxRecDepth 100000 in
/-- laws.szGround -/
theorem szG (a b : Int) (h : List Int) (hl : h.length = 81) (A : Option Addr) (c : Nat) (l : List S45) (n r : Int) (w : World) (hr : Kd.C k45 w A l.length l) (hc : l.length ≤ c) (hf : laws_szCellS.f l n = some r) :
    Calls Try.prog 4 #[.agg (G84 a b h (.slice A l.length c)).toArray, .int .i64 n] w fun e w' => e = .returned (.int .i64 (if r < 0 then -1 else r)) ∧ Below w.heap.size w w' := by
  have hu28 := Try.underlying28
  have HL := Aside0.mk hl
  have HR := Aside0.mk hr
  have HC := Aside0.mk hc
  have HF := Aside0.mk hf
  clear hl hr hc hf
  have HB := Aside0.mk (Below.refl w.heap.size w)
  by_cases cr : r < 0
  · rw [if_pos cr]
    have c0 : decide (r < 0) = true := decide_eq_true cr
    clear cr
    go_enter Try.func4, Try.ntmps4
    go_wp2_with (first | ((with_reducible refine gate_dst (N := 2) rfl ?_); refine Gr.box_seg ?hg (N := 2) ?hd (t := 28) (x := .tmp 0) (cs := G84 a b h (.slice A l.length c)) ?ho ?hx ?_; (case hg => rfl); (case hd => rfl); (case ho => rfl); (case hx => rfl); intro g1 hg w1 hb hB; have HB1 := Aside0.mk (below_step HB.out hB); have hcz : w1.cell? ⟨g1, 83, none⟩ = some (.slice A l.length c) := (cell_of hb 83).trans (G84_last HL.out); clear HB hB hb hg) | (go_at_call 9; refine (laws_szCellS.calls A c l n r _ (Kd.C_below HR.out HB1.out) HC.out HF.out).mono ?_; rintro e w' ⟨rfl, ⟨nd, rfl⟩⟩))
    go_ret
    exact ⟨rfl, pw_below_drewN HB1.out nd⟩
  · rw [if_neg cr]
    have c0 : decide (r < 0) = false := decide_eq_false cr
    clear cr
    go_enter Try.func4, Try.ntmps4
    go_wp2_with (first | ((with_reducible refine gate_dst (N := 2) rfl ?_); refine Gr.box_seg ?hg (N := 2) ?hd (t := 28) (x := .tmp 0) (cs := G84 a b h (.slice A l.length c)) ?ho ?hx ?_; (case hg => rfl); (case hd => rfl); (case ho => rfl); (case hx => rfl); intro g1 hg w1 hb hB; have HB1 := Aside0.mk (below_step HB.out hB); have hcz : w1.cell? ⟨g1, 83, none⟩ = some (.slice A l.length c) := (cell_of hb 83).trans (G84_last HL.out); clear HB hB hb hg) | (go_at_call 9; refine (laws_szCellS.calls A c l n r _ (Kd.C_below HR.out HB1.out) HC.out HF.out).mono ?_; rintro e w' ⟨rfl, ⟨nd, rfl⟩⟩))
    go_ret
    exact ⟨rfl, pw_below_drewN HB1.out nd⟩
set_option maxHeartbeats 8000000 in
set_option maxRecDepth 100000 in
/-- laws.toGround -/
theorem toG (a b : Int) (h : List Int) (hl : h.length = 81) (A : Option Addr) (c : Nat) (l : List S45) (l2 : List S41) (k : Nat) (w : World) (hr : Kd.C k45 w A l.length l) (hc : l.length ≤ c) (hf : laws_toCellS.f k l = some l2) :
    Calls Try.prog 6 #[.agg (G84 a b h (.slice A l.length c)).toArray] w fun e w' => ∃ v, e = .returned (.agg (G84 a b h v).toArray) ∧ Kd.R k41 41 w' w.heap.size (fun _ => True) v l2 ∧ Below w.heap.size w w' := by
  have hu28 := Try.underlying28
  have hu33 := Try.underlying33
  have HL := Aside0.mk hl
  have HR := Aside0.mk hr
  have HC := Aside0.mk hc
  have HF := Aside0.mk hf
  clear hl hr hc hf
  have HB := Aside0.mk (Below.refl w.heap.size w)
  have HT := Aside0.mk (toGrid h HL.out)
  go_enter Try.func6, Try.ntmps6
  go_wp2_with (first | ((with_reducible refine gate_dst (N := 1) rfl ?_); refine Gr.box_seg ?hg (N := 1) ?hd (t := 28) (x := .tmp 0) (cs := G84 a b h (.slice A l.length c)) ?ho ?hx ?_; (case hg => rfl); (case hd => rfl); (case ho => rfl); (case hx => rfl); intro g1 hg w1 hb hB; have HB1 := Aside0.mk (below_step HB.out hB); have K1 := Aside0.mk hb; have GE1 := Aside0.mk (show w.heap.size ≤ g1 by rw [hg]; exact below_size HB.out); clear HB hB hb hg) | ((with_reducible refine gate_dst (N := 2) rfl ?_); refine Gr.alloc_seg ?hg (N := 2) ?hd (t := 33) (cs := G84 0 0 (arrZ 81) (.slice none 0 0)) ?ho Gr.zero33 ?_; (case hg => rfl); (case hd => rfl); (case ho => rfl); intro g2 hg w1 hb hB; have NE12 := Aside0.mk (show g1 ≠ g2 by rw [hg]; exact Nat.ne_of_lt (blk_lt K1.out)); have GE2 := Aside0.mk (show w.heap.size ≤ g2 by rw [hg]; exact below_size HB1.out); have K1' := Aside0.mk (blk_below K1.out hB); have HB2 := Aside0.mk (below_step HB1.out hB); have K2 := Aside0.mk hb; clear K1 HB1 hB hb hg; have K1 := K1'; clear K1') | ((with_reducible refine gate_dst (N := 3) rfl ?_); refine Gr.alloc_seg ?hg (N := 3) ?hd (t := 33) (cs := G84 0 0 (arrZ 81) (.slice none 0 0)) ?ho Gr.zero33 ?_; (case hg => rfl); (case hd => rfl); (case ho => rfl); intro g3 hg w1 hb hB; have NE13 := Aside0.mk (show g1 ≠ g3 by rw [hg]; exact Nat.ne_of_lt (blk_lt K1.out)); have NE23 := Aside0.mk (show g2 ≠ g3 by rw [hg]; exact Nat.ne_of_lt (blk_lt K2.out)); have GE3 := Aside0.mk (show w.heap.size ≤ g3 by rw [hg]; exact below_size HB2.out); have K1' := Aside0.mk (blk_below K1.out hB); have K2' := Aside0.mk (blk_below K2.out hB); have HB3 := Aside0.mk (below_step HB2.out hB); have K3 := Aside0.mk hb; clear K1 K2 HB2 hB hb hg; have K1 := K1'; have K2 := K2'; clear K1' K2'; have hc0 : w1.cell? ⟨g1, 0, none⟩ = some (.int .i8 a) := (cell_of K1.out 0).trans rfl; have hc1 : w1.cell? ⟨g1, 1, none⟩ = some (.int .i8 b) := (cell_of K1.out 1).trans rfl) | ((with_reducible refine gate_store (t := 22) (p := 6) rfl ?_); refine Gr.store_seg ?hg ?hn (t := 22) (te := 33) (p := 6) (v := .tmp 5) ?ho (g := g3) (off := 0) (cs := G84 0 0 (arrZ 81) (.slice none 0 0)) (seg := [.int .i8 a]) (u := .int .i8 a) ?hp ?hv rfl K3.out ?hfit ?hi ?h1 ?_; (case hg => rfl); (case hn => rfl); (case ho => rfl); (case hp => rfl); (case hv => rfl); (case hfit => rw [G84_length, z81]; first | decide | (simp only [List.length_cons, List.length_nil]; decide)); (case hi => exact size22); (case h1 => intro q hq; obtain rfl := List.mem_singleton.1 hq; rfl); intro w4 hgr hb; replace hb : w4.heap[g3]? = some (.cells (G84 a 0 (arrZ 81) (.slice none 0 0)).toArray 33 (0, 0)) := hb; clear hc0 hc1; have K1' := Aside0.mk (Gr.blk_grown K1.out hgr NE13.out); have K2' := Aside0.mk (Gr.blk_grown K2.out hgr NE23.out); have HB4 := Aside0.mk (Gr.below_grown HB3.out hgr (below_size HB3.out) GE3.out); have K3' := Aside0.mk hb; clear K1 K2 K3 HB3 hb hgr; have K1 := K1'; have K2 := K2'; have K3 := K3'; clear K1' K2' K3'; have hc0 : w4.cell? ⟨g1, 0, none⟩ = some (.int .i8 a) := (cell_of K1.out 0).trans rfl; have hc1 : w4.cell? ⟨g1, 1, none⟩ = some (.int .i8 b) := (cell_of K1.out 1).trans rfl) | ((with_reducible refine gate_store (t := 22) (p := 9) rfl ?_); refine Gr.store_seg ?hg ?hn (t := 22) (te := 33) (p := 9) (v := .tmp 8) ?ho (g := g3) (off := 1) (cs := G84 a 0 (arrZ 81) (.slice none 0 0)) (seg := [.int .i8 b]) (u := .int .i8 b) ?hp ?hv rfl K3.out ?hfit ?hi ?h1 ?_; (case hg => rfl); (case hn => rfl); (case ho => rfl); (case hp => rfl); (case hv => rfl); (case hfit => rw [G84_length, z81]; first | decide | (simp only [List.length_cons, List.length_nil]; decide)); (case hi => exact size22); (case h1 => intro q hq; obtain rfl := List.mem_singleton.1 hq; rfl); intro w4 hgr hb; replace hb : w4.heap[g3]? = some (.cells (G84 a b (arrZ 81) (.slice none 0 0)).toArray 33 (0, 0)) := hb; clear hc0 hc1; have K1' := Aside0.mk (Gr.blk_grown K1.out hgr NE13.out); have K2' := Aside0.mk (Gr.blk_grown K2.out hgr NE23.out); have HB5 := Aside0.mk (Gr.below_grown HB4.out hgr (below_size HB4.out) GE3.out); have K3' := Aside0.mk hb; clear K1 K2 K3 HB4 hb hgr; have K1 := K1'; have K2 := K2'; have K3 := K3'; clear K1' K2' K3') | ((with_reducible refine gate_dst (N := 11) rfl ?_); refine Gr.load_seg ?hg (N := 11) ?hd (t := 25) (te := 28) (x := .tmp 10) ?ho (g := g1) (off := 2) (n := 81) (cs := G84 a b h (.slice A l.length c)) ?hp K1.out ?hfit Try.underlying25 rfl Gr.size81 ?_; (case hg => rfl); (case hd => rfl); (case ho => rfl); (case hp => rfl); (case hfit => rw [G84_length, HL.out]; decide); rw [G84_mid HL.out]) | (go_at_call 11; refine (HT.out _).mono ?_; rintro e w5 ⟨rfl, hB⟩; have K1' := Aside0.mk (blk_below K1.out hB); have K2' := Aside0.mk (blk_below K2.out hB); have K3' := Aside0.mk (blk_below K3.out hB); have HB6 := Aside0.mk (below_step HB5.out hB); clear K1 K2 K3 HB5 hB; have K1 := K1'; have K2 := K2'; have K3 := K3'; clear K1' K2' K3') | ((with_reducible refine gate_store (t := 25) (p := 13) rfl ?_); refine Gr.store_seg ?hg ?hn (t := 25) (te := 33) (p := 13) (v := .tmp 12) ?ho (g := g3) (off := 2) (cs := G84 a b (arrZ 81) (.slice none 0 0)) (seg := ints h) (u := .agg (ints h).toArray) ?hp ?hv rfl K3.out ?hfit ?hi ?h1 ?_; (case hg => rfl); (case hn => rfl); (case ho => rfl); (case hp => rfl); (case hv => rfl); (case hfit => rw [ints_length, HL.out, G84_length, z81]; first | decide | (simp only [List.length_cons, List.length_nil]; decide)); (case hi => rw [ints_length, HL.out]; exact size81); (case h1 => exact ints_one h); intro w4 hgr hb; rw [G84_put z81 HL.out] at hb; have K1' := Aside0.mk (Gr.blk_grown K1.out hgr NE13.out); have K2' := Aside0.mk (Gr.blk_grown K2.out hgr NE23.out); have HB7 := Aside0.mk (Gr.below_grown HB6.out hgr (below_size HB6.out) GE3.out); have K3' := Aside0.mk hb; clear K1 K2 K3 HB6 hb hgr; have K1 := K1'; have K2 := K2'; have K3 := K3'; clear K1' K2' K3'; have hc83 : w4.cell? ⟨g1, 83, none⟩ = some (.slice A l.length c) := (cell_of K1.out 83).trans (G84_last HL.out)) | (go_at_call 12; refine (laws_toCellS.calls k A c l l2 _ (Kd.C_below HR.out HB7.out) HC.out HF.out).mono ?_; rintro e w5 ⟨v16, rfl, ho, hB⟩; have HV := Aside0.mk (Kd.R_mono (Kd.R_bound ho) (ok' := fun k_ => k_ ≠ g2 ∧ k_ ≠ g3) (fun k_ hk_ => ⟨fun e_ => by have h1 := blk_lt K2.out; have h2 := hk_.2.1; omega, fun e_ => by have h1 := blk_lt K3.out; have h2 := hk_.2.1; omega⟩)); have HV2 := Aside0.mk (Kd.R_lower HV.out (below_size HB7.out)); have K1' := Aside0.mk (blk_below K1.out hB); have K2' := Aside0.mk (blk_below K2.out hB); have K3' := Aside0.mk (blk_below K3.out hB); have HB8 := Aside0.mk (below_step HB7.out hB); clear HV ho K1 K2 K3 HB7 hB hc83; have K1 := K1'; have K2 := K2'; have K3 := K3'; have HV := HV2; clear K1' K2' K3' HV2; have HO := Aside0.mk (show v16.oneCell' = true by obtain ⟨A_, c_, e_⟩ := Kd.R_slice HV.out; rw [e_]; rfl); have HU := Aside0.mk (show v16.cells.toList = [v16] by obtain ⟨A_, c_, e_⟩ := Kd.R_slice HV.out; rw [e_]; rfl)) | ((with_reducible refine gate_store (t := 31) (p := 17) rfl ?_); refine Gr.store_seg ?hg ?hn (t := 31) (te := 33) (p := 17) (v := .tmp 16) ?ho (g := g3) (off := 83) (cs := G84 a b h (.slice none 0 0)) (seg := [v16]) (u := v16) ?hp ?hv HU.out K3.out ?hfit ?hi ?h1 ?_; (case hg => rfl); (case hn => rfl); (case ho => rfl); (case hp => rfl); (case hv => rfl); (case hfit => rw [G84_length, HL.out]; first | decide | (simp only [List.length_cons, List.length_nil]; decide)); (case hi => exact size31); (case h1 => intro q hq; obtain rfl := List.mem_singleton.1 hq; exact HO.out); intro w4 hgr hb; rw [show [v16].length = 1 from rfl, G84_putlast HL.out] at hb; have HV2 := Aside0.mk (Kd.R_grown HV.out hgr (fun k_ hk_ e_ => hk_.2 (Option.some.inj e_))); clear HV; have HV := HV2; clear HV2; have K1' := Aside0.mk (Gr.blk_grown K1.out hgr NE13.out); have K2' := Aside0.mk (Gr.blk_grown K2.out hgr NE23.out); have HB9' := Aside0.mk (Gr.below_grown HB8.out hgr (below_size HB8.out) GE3.out); have K3' := Aside0.mk hb; clear K1 K2 K3 HB8 hb hgr; have K1 := K1'; have K2 := K2'; have K3 := K3'; clear K1' K2' K3'; have HI := Aside0.mk (show (G84 a b h v16).length = 84 by rw [G84_length, HL.out])) | ((with_reducible refine gate_dst (N := 18) rfl ?_); refine Gr.load_all ?hg (N := 18) ?hd (t := 33) (te := 33) (x := .tmp 3) ?ho (g := g3) (n := 84) (cs := G84 a b h v16) ?hp K3.out HI.out Try.underlying33 rfl Gr.size33 ?_; (case hg => rfl); (case hd => rfl); (case ho => rfl); (case hp => rfl)) | ((with_reducible refine gate_store (t := 33) (p := 2) rfl ?_); refine Gr.store_all ?hg ?hn (t := 33) (te := 33) (p := 2) (v := .tmp 18) ?ho (g := g2) (n := 84) (cs := G84 0 0 (arrZ 81) (.slice none 0 0)) (seg := G84 a b h v16) ?hp ?hv K2.out (by rw [G84_length, z81]) HI.out Gr.size33 (G84_one HO.out) ?_; (case hg => rfl); (case hn => rfl); (case ho => rfl); (case hp => rfl); (case hv => rfl); intro w4 hgr hb; have HB9 := Aside0.mk (Gr.below_grown HB9'.out hgr (below_size HB9'.out) GE2.out); have HV' := Aside0.mk (Kd.R_grown HV.out hgr (fun k_ hk_ e_ => hk_.1 (Option.some.inj e_))); have K2' := Aside0.mk hb; clear hb hgr K2 HB9' HV K1 K3))
  refine bodyPost_ret (results_cell_row rfl _ _ g2 33 (G84 a b h v16).toArray (0, 0) _ rfl K2'.out Try.underlying33 rfl (by rw [List.size_toArray, G84_length, HL.out]; exact size33)) rfl ?_
  exact ⟨v16, rfl, Kd.R_mono HV'.out (fun _ _ => trivial), HB9.out⟩
end Gr
end Go.Proofs.Ythbgebikdleblaa.Q
