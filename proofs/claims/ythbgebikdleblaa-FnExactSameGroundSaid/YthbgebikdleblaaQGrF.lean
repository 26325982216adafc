/- Grounds compared: by the laws, by the reference, by the program. -/
import Derived.Test.YthbgebikdleblaaQGrD
namespace Go.Proofs.Ythbgebikdleblaa.Q
open Go.RowKit Go.Proofs.YthbgebikdleblaaW.PrintWords Go.Proofs.YthbgebikdleblaaW.PrintLast Go.Proofs.YthbgebikdleblaaW.PrintMore
set_option linter.unusedVariables false
set_option linter.unusedSimpArgs false
namespace Gr
set_option maxHeartbeats 8000000 in
set_option maxRecDepth 100000 in
/-- laws.eqGround -/
theorem eqG (a b : Int) (h : List Int) (hl : h.length = 81) (A : Option Addr) (c : Nat) (l : List S41) (A2 : Option Addr) (c2 : Nat) (l2 : List S41) (k : Nat) (w : World) (hr : Kd.C k41 w A l.length l) (hc : l.length ≤ c) (hr2 : Kd.C k41 w A2 l2.length l2) (hc2 : l2.length ≤ c2) (hf : laws_eqCellS.f k l l2 = some true) :
    Calls Try.prog 8 #[.agg (G84 a b h (.slice A l.length c)).toArray, .agg (G84 a b h (.slice A2 l2.length c2)).toArray] w fun e w' => e = .returned (.bool true) ∧ Below w.heap.size w w' := by
  have hu33 := Try.underlying33
  have HL := Aside0.mk hl
  have HM := Aside0.mk hl
  have HR := Aside0.mk hr
  have HC := Aside0.mk hc
  have HR2 := Aside0.mk hr2
  have HC2 := Aside0.mk hc2
  have HF := Aside0.mk hf
  clear hl hr hc hr2 hc2 hf
  have HB := Aside0.mk (Below.refl w.heap.size w)
  have HE := Aside0.mk (eqGrid h h HL.out HL.out)
  rw [decide_eq_true rfl] at HE
  go_enter Try.func8, Try.ntmps8
  go_wp2_with (first | ((with_reducible refine gate_dst (N := 2) rfl ?_); refine Gr.box_seg ?hg (N := 2) ?hd (t := 33) (x := .tmp 0) (cs := G84 a b h (.slice A l.length c)) ?ho ?hx ?_; (case hg => rfl); (case hd => rfl); (case ho => rfl); (case hx => rfl); intro g1 hg w1 hb hB; have HB1 := Aside0.mk (below_step HB.out hB); have K1 := Aside0.mk hb; clear HB hB hb hg) | ((with_reducible refine gate_dst (N := 3) rfl ?_); refine Gr.box_seg ?hg (N := 3) ?hd (t := 33) (x := .tmp 1) (cs := G84 a b h (.slice A2 l2.length c2)) ?ho ?hx ?_; (case hg => rfl); (case hd => rfl); (case ho => rfl); (case hx => rfl); intro g2 hg w1 hb hB; have K1' := Aside0.mk (blk_below K1.out hB); have HB2 := Aside0.mk (below_step HB1.out hB); have K2 := Aside0.mk hb; clear K1 HB1 hB hb hg; have K1 := K1'; clear K1'; have hg10 : w1.cell? ⟨g1, 0, none⟩ = some (.int .i8 a) := (cell_of K1.out 0).trans rfl; have hg11 : w1.cell? ⟨g1, 1, none⟩ = some (.int .i8 b) := (cell_of K1.out 1).trans rfl; have hg183 : w1.cell? ⟨g1, 83, none⟩ = some (.slice A l.length c) := (cell_of K1.out 83).trans (G84_last HL.out); have hg20 : w1.cell? ⟨g2, 0, none⟩ = some (.int .i8 a) := (cell_of K2.out 0).trans rfl; have hg21 : w1.cell? ⟨g2, 1, none⟩ = some (.int .i8 b) := (cell_of K2.out 1).trans rfl; have hg283 : w1.cell? ⟨g2, 83, none⟩ = some (.slice A2 l2.length c2) := (cell_of K2.out 83).trans (G84_last HM.out)) | ((with_reducible refine gate_dst (N := 16) rfl ?_); refine Gr.load_seg ?hg (N := 16) ?hd (t := 25) (te := 33) (x := .tmp 15) ?ho (g := g1) (off := 2) (n := 81) (cs := G84 a b h (.slice A l.length c)) ?hp K1.out ?hfit Try.underlying25 rfl Gr.size81 ?_; (case hg => rfl); (case hd => rfl); (case ho => rfl); (case hp => rfl); (case hfit => rw [G84_length, HL.out]; decide); rw [G84_mid HL.out]) | ((with_reducible refine gate_dst (N := 18) rfl ?_); refine Gr.load_seg ?hg (N := 18) ?hd (t := 25) (te := 33) (x := .tmp 17) ?ho (g := g2) (off := 2) (n := 81) (cs := G84 a b h (.slice A2 l2.length c2)) ?hp K2.out ?hfit Try.underlying25 rfl Gr.size81 ?_; (case hg => rfl); (case hd => rfl); (case ho => rfl); (case hp => rfl); (case hfit => rw [G84_length, HM.out]; decide); rw [G84_mid HM.out]) | (go_at_call 14; refine (HE.out _).mono ?_; rintro e w5 ⟨rfl, hB⟩; have K1' := Aside0.mk (blk_below K1.out hB); have K2' := Aside0.mk (blk_below K2.out hB); have HB3 := Aside0.mk (below_step HB2.out hB); clear K1 K2 HB2 hB hg10 hg11 hg183 hg20 hg21 hg283; have hg10 : w5.cell? ⟨g1, 0, none⟩ = some (.int .i8 a) := (cell_of K1'.out 0).trans rfl; have hg11 : w5.cell? ⟨g1, 1, none⟩ = some (.int .i8 b) := (cell_of K1'.out 1).trans rfl; have hg183 : w5.cell? ⟨g1, 83, none⟩ = some (.slice A l.length c) := (cell_of K1'.out 83).trans (G84_last HL.out); have hg20 : w5.cell? ⟨g2, 0, none⟩ = some (.int .i8 a) := (cell_of K2'.out 0).trans rfl; have hg21 : w5.cell? ⟨g2, 1, none⟩ = some (.int .i8 b) := (cell_of K2'.out 1).trans rfl; have hg283 : w5.cell? ⟨g2, 83, none⟩ = some (.slice A2 l2.length c2) := (cell_of K2'.out 83).trans (G84_last HM.out)) | (go_at_call 15; refine (laws_eqCellS.calls k A c l A2 c2 l2 true _ (Kd.C_below HR.out HB3.out) HC.out (Kd.C_below HR2.out HB3.out) HC2.out HF.out).mono ?_; rintro e w6 ⟨rfl, hB⟩; have HB4 := Aside0.mk (below_step HB3.out hB); clear hB))
  go_ret
  exact ⟨rfl, HB4.out⟩
set_option maxHeartbeats 8000000 in
set_option maxRecDepth 100000 in
/-- spec.SameGround -/
theorem specSame (a b : Int) (h : List Int) (hl : h.length = 81) (A : Option Addr) (c : Nat) (l : List S41) (a2 b2 : Int) (h2 : List Int) (hl2 : h2.length = 81) (A2 : Option Addr) (c2 : Nat) (l2 : List S41) (k : Nat) (r : Bool) (w : World) (hr : Kd.C k41 w A l.length l) (hc : l.length ≤ c) (hr2 : Kd.C k41 w A2 l2.length l2) (hc2 : l2.length ≤ c2) (hf : spec_SameCells.f k l l2 = some r) :
    Calls Try.prog 5 #[.agg (G84 a b h (.slice A l.length c)).toArray, .agg (G84 a2 b2 h2 (.slice A2 l2.length c2)).toArray] w fun e w' => e = .returned (.bool (decide (a = a2 ∧ b = b2 ∧ h = h2) && r)) ∧ Below w.heap.size w w' := by
  have hu33 := Try.underlying33
  have HL := Aside0.mk hl
  have HM := Aside0.mk hl2
  have HR := Aside0.mk hr
  have HC := Aside0.mk hc
  have HR2 := Aside0.mk hr2
  have HC2 := Aside0.mk hc2
  have HF := Aside0.mk hf
  clear hl hl2 hr hc hr2 hc2 hf
  have HB := Aside0.mk (Below.refl w.heap.size w)
  have hE := eq_grid h h2 HL.out HM.out
  by_cases d1 : a = a2
  · have e1 : (a == a2) = true := beq_iff_eq.mpr d1
    by_cases d2 : b = b2
    · have e2 : (b == b2) = true := beq_iff_eq.mpr d2
      by_cases d3 : h = h2
      · rw [decide_eq_true d3] at hE
        have HX := Aside0.mk (show (decide (a = a2 ∧ b = b2 ∧ h = h2) && r) = r by rw [decide_eq_true ⟨d1, d2, d3⟩]; simp)
        clear d1 d2 d3
        go_enter Try.func5, Try.ntmps5
        go_wp2_with (first | ((with_reducible refine gate_dst (N := 2) rfl ?_); refine Gr.box_seg ?hg (N := 2) ?hd (t := 33) (x := .tmp 0) (cs := G84 a b h (.slice A l.length c)) ?ho ?hx ?_; (case hg => rfl); (case hd => rfl); (case ho => rfl); (case hx => rfl); intro g1 hg w1 hb hB; have HB1 := Aside0.mk (below_step HB.out hB); have K1 := Aside0.mk hb; clear HB hB hb hg) | ((with_reducible refine gate_dst (N := 3) rfl ?_); refine Gr.box_seg ?hg (N := 3) ?hd (t := 33) (x := .tmp 1) (cs := G84 a2 b2 h2 (.slice A2 l2.length c2)) ?ho ?hx ?_; (case hg => rfl); (case hd => rfl); (case ho => rfl); (case hx => rfl); intro g2 hg w1 hb hB; have K1' := Aside0.mk (blk_below K1.out hB); have HB2 := Aside0.mk (below_step HB1.out hB); have K2 := Aside0.mk hb; clear K1 HB1 hB hb hg; have K1 := K1'; clear K1'; have hg10 : w1.cell? ⟨g1, 0, none⟩ = some (.int .i8 a) := (cell_of K1.out 0).trans rfl; have hg11 : w1.cell? ⟨g1, 1, none⟩ = some (.int .i8 b) := (cell_of K1.out 1).trans rfl; have hg183 : w1.cell? ⟨g1, 83, none⟩ = some (.slice A l.length c) := (cell_of K1.out 83).trans (G84_last HL.out); have hg20 : w1.cell? ⟨g2, 0, none⟩ = some (.int .i8 a2) := (cell_of K2.out 0).trans rfl; have hg21 : w1.cell? ⟨g2, 1, none⟩ = some (.int .i8 b2) := (cell_of K2.out 1).trans rfl; have hg283 : w1.cell? ⟨g2, 83, none⟩ = some (.slice A2 l2.length c2) := (cell_of K2.out 83).trans (G84_last HM.out)) | ((with_reducible refine gate_dst (N := 19) rfl ?_); (try (refine gate_guard (by rfl) ?_; dsimp only)); refine Gr.load_seg ?hg (N := 19) ?hd (t := 25) (te := 33) (x := .tmp 18) ?ho (g := g1) (off := 2) (n := 81) (cs := G84 a b h (.slice A l.length c)) ?hp K1.out ?hfit Try.underlying25 rfl Gr.size81 ?_; (case hg => rfl); (case hd => rfl); (case ho => rfl); (case hp => rfl); (case hfit => rw [G84_length, HL.out]; decide); rw [G84_mid HL.out]) | ((with_reducible refine gate_dst (N := 21) rfl ?_); (try (refine gate_guard (by rfl) ?_; dsimp only)); refine Gr.load_seg ?hg (N := 21) ?hd (t := 25) (te := 33) (x := .tmp 20) ?ho (g := g2) (off := 2) (n := 81) (cs := G84 a2 b2 h2 (.slice A2 l2.length c2)) ?hp K2.out ?hfit Try.underlying25 rfl Gr.size81 ?_; (case hg => rfl); (case hd => rfl); (case ho => rfl); (case hp => rfl); (case hfit => rw [G84_length, HM.out]; decide); rw [G84_mid HM.out]) | (go_at_call 10; refine (spec_SameCells.calls k A c l A2 c2 l2 r _ (Kd.C_below HR.out HB2.out) HC.out (Kd.C_below HR2.out HB2.out) HC2.out HF.out).mono ?_; rintro e w6 ⟨rfl, ⟨nd, rfl⟩⟩))
        go_ret
        exact ⟨by rw [HX.out]; rfl, pw_below_drewN HB2.out nd⟩
      · rw [decide_eq_false d3] at hE
        have HX := Aside0.mk (show (decide (a = a2 ∧ b = b2 ∧ h = h2) && r) = false by rw [decide_eq_false (fun h_ => d3 h_.2.2)]; simp)
        clear d1 d2 d3
        go_enter Try.func5, Try.ntmps5
        go_wp2_with (first | ((with_reducible refine gate_dst (N := 2) rfl ?_); refine Gr.box_seg ?hg (N := 2) ?hd (t := 33) (x := .tmp 0) (cs := G84 a b h (.slice A l.length c)) ?ho ?hx ?_; (case hg => rfl); (case hd => rfl); (case ho => rfl); (case hx => rfl); intro g1 hg w1 hb hB; have HB1 := Aside0.mk (below_step HB.out hB); have K1 := Aside0.mk hb; clear HB hB hb hg) | ((with_reducible refine gate_dst (N := 3) rfl ?_); refine Gr.box_seg ?hg (N := 3) ?hd (t := 33) (x := .tmp 1) (cs := G84 a2 b2 h2 (.slice A2 l2.length c2)) ?ho ?hx ?_; (case hg => rfl); (case hd => rfl); (case ho => rfl); (case hx => rfl); intro g2 hg w1 hb hB; have K1' := Aside0.mk (blk_below K1.out hB); have HB2 := Aside0.mk (below_step HB1.out hB); have K2 := Aside0.mk hb; clear K1 HB1 hB hb hg; have K1 := K1'; clear K1'; have hg10 : w1.cell? ⟨g1, 0, none⟩ = some (.int .i8 a) := (cell_of K1.out 0).trans rfl; have hg11 : w1.cell? ⟨g1, 1, none⟩ = some (.int .i8 b) := (cell_of K1.out 1).trans rfl; have hg183 : w1.cell? ⟨g1, 83, none⟩ = some (.slice A l.length c) := (cell_of K1.out 83).trans (G84_last HL.out); have hg20 : w1.cell? ⟨g2, 0, none⟩ = some (.int .i8 a2) := (cell_of K2.out 0).trans rfl; have hg21 : w1.cell? ⟨g2, 1, none⟩ = some (.int .i8 b2) := (cell_of K2.out 1).trans rfl; have hg283 : w1.cell? ⟨g2, 83, none⟩ = some (.slice A2 l2.length c2) := (cell_of K2.out 83).trans (G84_last HM.out)) | ((with_reducible refine gate_dst (N := 19) rfl ?_); (try (refine gate_guard (by rfl) ?_; dsimp only)); refine Gr.load_seg ?hg (N := 19) ?hd (t := 25) (te := 33) (x := .tmp 18) ?ho (g := g1) (off := 2) (n := 81) (cs := G84 a b h (.slice A l.length c)) ?hp K1.out ?hfit Try.underlying25 rfl Gr.size81 ?_; (case hg => rfl); (case hd => rfl); (case ho => rfl); (case hp => rfl); (case hfit => rw [G84_length, HL.out]; decide); rw [G84_mid HL.out]) | ((with_reducible refine gate_dst (N := 21) rfl ?_); (try (refine gate_guard (by rfl) ?_; dsimp only)); refine Gr.load_seg ?hg (N := 21) ?hd (t := 25) (te := 33) (x := .tmp 20) ?ho (g := g2) (off := 2) (n := 81) (cs := G84 a2 b2 h2 (.slice A2 l2.length c2)) ?hp K2.out ?hfit Try.underlying25 rfl Gr.size81 ?_; (case hg => rfl); (case hd => rfl); (case ho => rfl); (case hp => rfl); (case hfit => rw [G84_length, HM.out]; decide); rw [G84_mid HM.out]))
        go_ret
        exact ⟨by rw [HX.out]; rfl, HB2.out⟩
    · have e2 : (b == b2) = false := beq_eq_false_iff_ne.mpr d2
      have HX := Aside0.mk (show (decide (a = a2 ∧ b = b2 ∧ h = h2) && r) = false by rw [decide_eq_false (fun h_ => d2 h_.2.1)]; simp)
      clear d1 d2 hE
      go_enter Try.func5, Try.ntmps5
      go_wp2_with (first | ((with_reducible refine gate_dst (N := 2) rfl ?_); refine Gr.box_seg ?hg (N := 2) ?hd (t := 33) (x := .tmp 0) (cs := G84 a b h (.slice A l.length c)) ?ho ?hx ?_; (case hg => rfl); (case hd => rfl); (case ho => rfl); (case hx => rfl); intro g1 hg w1 hb hB; have HB1 := Aside0.mk (below_step HB.out hB); have K1 := Aside0.mk hb; clear HB hB hb hg) | ((with_reducible refine gate_dst (N := 3) rfl ?_); refine Gr.box_seg ?hg (N := 3) ?hd (t := 33) (x := .tmp 1) (cs := G84 a2 b2 h2 (.slice A2 l2.length c2)) ?ho ?hx ?_; (case hg => rfl); (case hd => rfl); (case ho => rfl); (case hx => rfl); intro g2 hg w1 hb hB; have K1' := Aside0.mk (blk_below K1.out hB); have HB2 := Aside0.mk (below_step HB1.out hB); have K2 := Aside0.mk hb; clear K1 HB1 hB hb hg; have K1 := K1'; clear K1'; have hg10 : w1.cell? ⟨g1, 0, none⟩ = some (.int .i8 a) := (cell_of K1.out 0).trans rfl; have hg11 : w1.cell? ⟨g1, 1, none⟩ = some (.int .i8 b) := (cell_of K1.out 1).trans rfl; have hg183 : w1.cell? ⟨g1, 83, none⟩ = some (.slice A l.length c) := (cell_of K1.out 83).trans (G84_last HL.out); have hg20 : w1.cell? ⟨g2, 0, none⟩ = some (.int .i8 a2) := (cell_of K2.out 0).trans rfl; have hg21 : w1.cell? ⟨g2, 1, none⟩ = some (.int .i8 b2) := (cell_of K2.out 1).trans rfl; have hg283 : w1.cell? ⟨g2, 83, none⟩ = some (.slice A2 l2.length c2) := (cell_of K2.out 83).trans (G84_last HM.out)))
      go_ret
      exact ⟨by rw [HX.out]; rfl, HB2.out⟩
  · have e1 : (a == a2) = false := beq_eq_false_iff_ne.mpr d1
    have HX := Aside0.mk (show (decide (a = a2 ∧ b = b2 ∧ h = h2) && r) = false by rw [decide_eq_false (fun h_ => d1 h_.1)]; simp)
    clear d1 hE
    go_enter Try.func5, Try.ntmps5
    go_wp2_with (first | ((with_reducible refine gate_dst (N := 2) rfl ?_); refine Gr.box_seg ?hg (N := 2) ?hd (t := 33) (x := .tmp 0) (cs := G84 a b h (.slice A l.length c)) ?ho ?hx ?_; (case hg => rfl); (case hd => rfl); (case ho => rfl); (case hx => rfl); intro g1 hg w1 hb hB; have HB1 := Aside0.mk (below_step HB.out hB); have K1 := Aside0.mk hb; clear HB hB hb hg) | ((with_reducible refine gate_dst (N := 3) rfl ?_); refine Gr.box_seg ?hg (N := 3) ?hd (t := 33) (x := .tmp 1) (cs := G84 a2 b2 h2 (.slice A2 l2.length c2)) ?ho ?hx ?_; (case hg => rfl); (case hd => rfl); (case ho => rfl); (case hx => rfl); intro g2 hg w1 hb hB; have K1' := Aside0.mk (blk_below K1.out hB); have HB2 := Aside0.mk (below_step HB1.out hB); have K2 := Aside0.mk hb; clear K1 HB1 hB hb hg; have K1 := K1'; clear K1'; have hg10 : w1.cell? ⟨g1, 0, none⟩ = some (.int .i8 a) := (cell_of K1.out 0).trans rfl; have hg11 : w1.cell? ⟨g1, 1, none⟩ = some (.int .i8 b) := (cell_of K1.out 1).trans rfl; have hg183 : w1.cell? ⟨g1, 83, none⟩ = some (.slice A l.length c) := (cell_of K1.out 83).trans (G84_last HL.out); have hg20 : w1.cell? ⟨g2, 0, none⟩ = some (.int .i8 a2) := (cell_of K2.out 0).trans rfl; have hg21 : w1.cell? ⟨g2, 1, none⟩ = some (.int .i8 b2) := (cell_of K2.out 1).trans rfl; have hg283 : w1.cell? ⟨g2, 83, none⟩ = some (.slice A2 l2.length c2) := (cell_of K2.out 83).trans (G84_last HM.out)))
    go_ret
    exact ⟨by rw [HX.out]; rfl, HB2.out⟩
set_option maxHeartbeats 8000000 in
set_option maxRecDepth 100000 in
/-- impl.SameGround -/
theorem implSame (a b : Int) (h : List Int) (hl : h.length = 81) (A : Option Addr) (c : Nat) (l : List S41) (a2 b2 : Int) (h2 : List Int) (hl2 : h2.length = 81) (A2 : Option Addr) (c2 : Nat) (l2 : List S41) (k : Nat) (r : Bool) (w : World) (hr : Kd.C k41 w A l.length l) (hc : l.length ≤ c) (hr2 : Kd.C k41 w A2 l2.length l2) (hc2 : l2.length ≤ c2) (hf : impl_Cell.f k l l2 = some r) :
    Calls Try.prog 7 #[.agg (G84 a b h (.slice A l.length c)).toArray, .agg (G84 a2 b2 h2 (.slice A2 l2.length c2)).toArray] w fun e w' => e = .returned (.bool (decide (a = a2 ∧ b = b2 ∧ h = h2) && r)) ∧ Below w.heap.size w w' := by
  have hu33 := Try.underlying33
  have HL := Aside0.mk hl
  have HM := Aside0.mk hl2
  have HR := Aside0.mk hr
  have HC := Aside0.mk hc
  have HR2 := Aside0.mk hr2
  have HC2 := Aside0.mk hc2
  have HF := Aside0.mk hf
  clear hl hl2 hr hc hr2 hc2 hf
  have HB := Aside0.mk (Below.refl w.heap.size w)
  have hE := eq_grid h h2 HL.out HM.out
  by_cases d1 : a = a2
  · have e1 : (a == a2) = true := beq_iff_eq.mpr d1
    by_cases d2 : b = b2
    · have e2 : (b == b2) = true := beq_iff_eq.mpr d2
      by_cases d3 : h = h2
      · rw [decide_eq_true d3] at hE
        have HX := Aside0.mk (show (decide (a = a2 ∧ b = b2 ∧ h = h2) && r) = r by rw [decide_eq_true ⟨d1, d2, d3⟩]; simp)
        clear d1 d2 d3
        go_enter Try.func7, Try.ntmps7
        go_wp2_with (first | ((with_reducible refine gate_dst (N := 2) rfl ?_); refine Gr.box_seg ?hg (N := 2) ?hd (t := 33) (x := .tmp 0) (cs := G84 a b h (.slice A l.length c)) ?ho ?hx ?_; (case hg => rfl); (case hd => rfl); (case ho => rfl); (case hx => rfl); intro g1 hg w1 hb hB; have HB1 := Aside0.mk (below_step HB.out hB); have K1 := Aside0.mk hb; clear HB hB hb hg) | ((with_reducible refine gate_dst (N := 3) rfl ?_); refine Gr.box_seg ?hg (N := 3) ?hd (t := 33) (x := .tmp 1) (cs := G84 a2 b2 h2 (.slice A2 l2.length c2)) ?ho ?hx ?_; (case hg => rfl); (case hd => rfl); (case ho => rfl); (case hx => rfl); intro g2 hg w1 hb hB; have K1' := Aside0.mk (blk_below K1.out hB); have HB2 := Aside0.mk (below_step HB1.out hB); have K2 := Aside0.mk hb; clear K1 HB1 hB hb hg; have K1 := K1'; clear K1'; have hg10 : w1.cell? ⟨g1, 0, none⟩ = some (.int .i8 a) := (cell_of K1.out 0).trans rfl; have hg11 : w1.cell? ⟨g1, 1, none⟩ = some (.int .i8 b) := (cell_of K1.out 1).trans rfl; have hg183 : w1.cell? ⟨g1, 83, none⟩ = some (.slice A l.length c) := (cell_of K1.out 83).trans (G84_last HL.out); have hg20 : w1.cell? ⟨g2, 0, none⟩ = some (.int .i8 a2) := (cell_of K2.out 0).trans rfl; have hg21 : w1.cell? ⟨g2, 1, none⟩ = some (.int .i8 b2) := (cell_of K2.out 1).trans rfl; have hg283 : w1.cell? ⟨g2, 83, none⟩ = some (.slice A2 l2.length c2) := (cell_of K2.out 83).trans (G84_last HM.out)) | ((with_reducible refine gate_dst (N := 19) rfl ?_); (try (refine gate_guard (by rfl) ?_; dsimp only)); refine Gr.load_seg ?hg (N := 19) ?hd (t := 25) (te := 33) (x := .tmp 18) ?ho (g := g1) (off := 2) (n := 81) (cs := G84 a b h (.slice A l.length c)) ?hp K1.out ?hfit Try.underlying25 rfl Gr.size81 ?_; (case hg => rfl); (case hd => rfl); (case ho => rfl); (case hp => rfl); (case hfit => rw [G84_length, HL.out]; decide); rw [G84_mid HL.out]) | ((with_reducible refine gate_dst (N := 21) rfl ?_); (try (refine gate_guard (by rfl) ?_; dsimp only)); refine Gr.load_seg ?hg (N := 21) ?hd (t := 25) (te := 33) (x := .tmp 20) ?ho (g := g2) (off := 2) (n := 81) (cs := G84 a2 b2 h2 (.slice A2 l2.length c2)) ?hp K2.out ?hfit Try.underlying25 rfl Gr.size81 ?_; (case hg => rfl); (case hd => rfl); (case ho => rfl); (case hp => rfl); (case hfit => rw [G84_length, HM.out]; decide); rw [G84_mid HM.out]) | (go_at_call 13; refine (impl_Cell.calls k A c l A2 c2 l2 r _ (Kd.C_below HR.out HB2.out) HC.out (Kd.C_below HR2.out HB2.out) HC2.out HF.out).mono ?_; rintro e w6 ⟨rfl, ⟨nd, rfl⟩⟩))
        go_ret
        exact ⟨by rw [HX.out]; rfl, pw_below_drewN HB2.out nd⟩
      · rw [decide_eq_false d3] at hE
        have HX := Aside0.mk (show (decide (a = a2 ∧ b = b2 ∧ h = h2) && r) = false by rw [decide_eq_false (fun h_ => d3 h_.2.2)]; simp)
        clear d1 d2 d3
        go_enter Try.func7, Try.ntmps7
        go_wp2_with (first | ((with_reducible refine gate_dst (N := 2) rfl ?_); refine Gr.box_seg ?hg (N := 2) ?hd (t := 33) (x := .tmp 0) (cs := G84 a b h (.slice A l.length c)) ?ho ?hx ?_; (case hg => rfl); (case hd => rfl); (case ho => rfl); (case hx => rfl); intro g1 hg w1 hb hB; have HB1 := Aside0.mk (below_step HB.out hB); have K1 := Aside0.mk hb; clear HB hB hb hg) | ((with_reducible refine gate_dst (N := 3) rfl ?_); refine Gr.box_seg ?hg (N := 3) ?hd (t := 33) (x := .tmp 1) (cs := G84 a2 b2 h2 (.slice A2 l2.length c2)) ?ho ?hx ?_; (case hg => rfl); (case hd => rfl); (case ho => rfl); (case hx => rfl); intro g2 hg w1 hb hB; have K1' := Aside0.mk (blk_below K1.out hB); have HB2 := Aside0.mk (below_step HB1.out hB); have K2 := Aside0.mk hb; clear K1 HB1 hB hb hg; have K1 := K1'; clear K1'; have hg10 : w1.cell? ⟨g1, 0, none⟩ = some (.int .i8 a) := (cell_of K1.out 0).trans rfl; have hg11 : w1.cell? ⟨g1, 1, none⟩ = some (.int .i8 b) := (cell_of K1.out 1).trans rfl; have hg183 : w1.cell? ⟨g1, 83, none⟩ = some (.slice A l.length c) := (cell_of K1.out 83).trans (G84_last HL.out); have hg20 : w1.cell? ⟨g2, 0, none⟩ = some (.int .i8 a2) := (cell_of K2.out 0).trans rfl; have hg21 : w1.cell? ⟨g2, 1, none⟩ = some (.int .i8 b2) := (cell_of K2.out 1).trans rfl; have hg283 : w1.cell? ⟨g2, 83, none⟩ = some (.slice A2 l2.length c2) := (cell_of K2.out 83).trans (G84_last HM.out)) | ((with_reducible refine gate_dst (N := 19) rfl ?_); (try (refine gate_guard (by rfl) ?_; dsimp only)); refine Gr.load_seg ?hg (N := 19) ?hd (t := 25) (te := 33) (x := .tmp 18) ?ho (g := g1) (off := 2) (n := 81) (cs := G84 a b h (.slice A l.length c)) ?hp K1.out ?hfit Try.underlying25 rfl Gr.size81 ?_; (case hg => rfl); (case hd => rfl); (case ho => rfl); (case hp => rfl); (case hfit => rw [G84_length, HL.out]; decide); rw [G84_mid HL.out]) | ((with_reducible refine gate_dst (N := 21) rfl ?_); (try (refine gate_guard (by rfl) ?_; dsimp only)); refine Gr.load_seg ?hg (N := 21) ?hd (t := 25) (te := 33) (x := .tmp 20) ?ho (g := g2) (off := 2) (n := 81) (cs := G84 a2 b2 h2 (.slice A2 l2.length c2)) ?hp K2.out ?hfit Try.underlying25 rfl Gr.size81 ?_; (case hg => rfl); (case hd => rfl); (case ho => rfl); (case hp => rfl); (case hfit => rw [G84_length, HM.out]; decide); rw [G84_mid HM.out]))
        go_ret
        exact ⟨by rw [HX.out]; rfl, HB2.out⟩
    · have e2 : (b == b2) = false := beq_eq_false_iff_ne.mpr d2
      have HX := Aside0.mk (show (decide (a = a2 ∧ b = b2 ∧ h = h2) && r) = false by rw [decide_eq_false (fun h_ => d2 h_.2.1)]; simp)
      clear d1 d2 hE
      go_enter Try.func7, Try.ntmps7
      go_wp2_with (first | ((with_reducible refine gate_dst (N := 2) rfl ?_); refine Gr.box_seg ?hg (N := 2) ?hd (t := 33) (x := .tmp 0) (cs := G84 a b h (.slice A l.length c)) ?ho ?hx ?_; (case hg => rfl); (case hd => rfl); (case ho => rfl); (case hx => rfl); intro g1 hg w1 hb hB; have HB1 := Aside0.mk (below_step HB.out hB); have K1 := Aside0.mk hb; clear HB hB hb hg) | ((with_reducible refine gate_dst (N := 3) rfl ?_); refine Gr.box_seg ?hg (N := 3) ?hd (t := 33) (x := .tmp 1) (cs := G84 a2 b2 h2 (.slice A2 l2.length c2)) ?ho ?hx ?_; (case hg => rfl); (case hd => rfl); (case ho => rfl); (case hx => rfl); intro g2 hg w1 hb hB; have K1' := Aside0.mk (blk_below K1.out hB); have HB2 := Aside0.mk (below_step HB1.out hB); have K2 := Aside0.mk hb; clear K1 HB1 hB hb hg; have K1 := K1'; clear K1'; have hg10 : w1.cell? ⟨g1, 0, none⟩ = some (.int .i8 a) := (cell_of K1.out 0).trans rfl; have hg11 : w1.cell? ⟨g1, 1, none⟩ = some (.int .i8 b) := (cell_of K1.out 1).trans rfl; have hg183 : w1.cell? ⟨g1, 83, none⟩ = some (.slice A l.length c) := (cell_of K1.out 83).trans (G84_last HL.out); have hg20 : w1.cell? ⟨g2, 0, none⟩ = some (.int .i8 a2) := (cell_of K2.out 0).trans rfl; have hg21 : w1.cell? ⟨g2, 1, none⟩ = some (.int .i8 b2) := (cell_of K2.out 1).trans rfl; have hg283 : w1.cell? ⟨g2, 83, none⟩ = some (.slice A2 l2.length c2) := (cell_of K2.out 83).trans (G84_last HM.out)))
      go_ret
      exact ⟨by rw [HX.out]; rfl, HB2.out⟩
  · have e1 : (a == a2) = false := beq_eq_false_iff_ne.mpr d1
    have HX := Aside0.mk (show (decide (a = a2 ∧ b = b2 ∧ h = h2) && r) = false by rw [decide_eq_false (fun h_ => d1 h_.1)]; simp)
    clear d1 hE
    go_enter Try.func7, Try.ntmps7
    go_wp2_with (first | ((with_reducible refine gate_dst (N := 2) rfl ?_); refine Gr.box_seg ?hg (N := 2) ?hd (t := 33) (x := .tmp 0) (cs := G84 a b h (.slice A l.length c)) ?ho ?hx ?_; (case hg => rfl); (case hd => rfl); (case ho => rfl); (case hx => rfl); intro g1 hg w1 hb hB; have HB1 := Aside0.mk (below_step HB.out hB); have K1 := Aside0.mk hb; clear HB hB hb hg) | ((with_reducible refine gate_dst (N := 3) rfl ?_); refine Gr.box_seg ?hg (N := 3) ?hd (t := 33) (x := .tmp 1) (cs := G84 a2 b2 h2 (.slice A2 l2.length c2)) ?ho ?hx ?_; (case hg => rfl); (case hd => rfl); (case ho => rfl); (case hx => rfl); intro g2 hg w1 hb hB; have K1' := Aside0.mk (blk_below K1.out hB); have HB2 := Aside0.mk (below_step HB1.out hB); have K2 := Aside0.mk hb; clear K1 HB1 hB hb hg; have K1 := K1'; clear K1'; have hg10 : w1.cell? ⟨g1, 0, none⟩ = some (.int .i8 a) := (cell_of K1.out 0).trans rfl; have hg11 : w1.cell? ⟨g1, 1, none⟩ = some (.int .i8 b) := (cell_of K1.out 1).trans rfl; have hg183 : w1.cell? ⟨g1, 83, none⟩ = some (.slice A l.length c) := (cell_of K1.out 83).trans (G84_last HL.out); have hg20 : w1.cell? ⟨g2, 0, none⟩ = some (.int .i8 a2) := (cell_of K2.out 0).trans rfl; have hg21 : w1.cell? ⟨g2, 1, none⟩ = some (.int .i8 b2) := (cell_of K2.out 1).trans rfl; have hg283 : w1.cell? ⟨g2, 83, none⟩ = some (.slice A2 l2.length c2) := (cell_of K2.out 83).trans (G84_last HM.out)))
    go_ret
    exact ⟨by rw [HX.out]; rfl, HB2.out⟩
end Gr
end Go.Proofs.Ythbgebikdleblaa.Q
