-- By a program of this session's, out of the translation (with the kit's print). Lean checks it.
import Derived.Test.YtpelelodjigijaaXQ0
import Derived.Test.YtpelelodjigijaaXQ2
import Derived.Test.YtpelelodjigijaaXQ4
namespace Go.Proofs.Ytpelelodjigijaa.Q
open Go.RowKit Go.Proofs.YtpelelodjigijaaW.PrintWords Go.Proofs.YtpelelodjigijaaW.PrintLast Go.Proofs.YtpelelodjigijaaW.PrintMore
attribute [local go_sem] max2_int min2_int max_two min_two max_three min_three max_four min_four
set_option linter.unusedVariables false
set_option linter.unusedSimpArgs false
mutual
def spec_l01Can.l0 : Nat → Int → Int → Int → Int → Int → List Int → Option (Bool)
 | 0, _, _, _, _, _, _ => none
 | k + 1, x7, x237000, x237001, x237002, x237003, x241000 => if x7 < (IntKind.i8.wrap (x237001 + x237003)) then (spec_l01Can.l1 k x7 x237000 x237000 x237001 x237002 x237003 x241000) else (some true)
def spec_l01Can.l1 : Nat → Int → Int → Int → Int → Int → Int → List Int → Option (Bool)
 | 0, _, _, _, _, _, _, _ => none
 | k + 1, x7, x8, x237000, x237001, x237002, x237003, x241000 => if x8 < (IntKind.i8.wrap (x237000 + x237002)) then (if 0 ≤ x7 then (if x7 < 12 then (if 0 ≤ x8 then (if x8 < 12 then (if x7 * 12 + x8 < (x241000.length : Int) then (if (rd x241000 (x7 * 12 + x8)) = 0 then (spec_l01Can.l1 k x7 (IntKind.i8.wrap (x8 + 1)) x237000 x237001 x237002 x237003 x241000) else (some false)) else (none)) else (none)) else (none)) else (none)) else (none)) else (spec_l01Can.l0 k (IntKind.i8.wrap (x7 + 1)) x237000 x237001 x237002 x237003 x241000)
end
def spec_l01Can.f (k : Nat) (l0 : List (S30)) (a1_0 : Int) (a1_1 : Int) (a1_2 : Int) (a1_3 : Int) : Option (Bool) := (spec_l01Lies.f l0 a1_0 a1_1 a1_2 a1_3).bind fun t237 => (if t237 = true then ((spec_l01Lay.f k l0).bind fun bt238 => (if bt238.1.length = 144 then (spec_l01Can.l0 k a1_1 a1_0 a1_1 a1_2 a1_3 bt238.1) else (none))) else (some false))
theorem spec_l01Can.mono_l : ∀ k, (∀ y0 y1 y2 y3 y4 y5, LeO (spec_l01Can.l0 k y0 y1 y2 y3 y4 y5) (spec_l01Can.l0 (k + 1) y0 y1 y2 y3 y4 y5)) ∧ (∀ y0 y1 y2 y3 y4 y5 y6, LeO (spec_l01Can.l1 k y0 y1 y2 y3 y4 y5 y6) (spec_l01Can.l1 (k + 1) y0 y1 y2 y3 y4 y5 y6))
 | 0 => ⟨fun _ _ _ _ _ _ r h => by simp [spec_l01Can.l0] at h, fun _ _ _ _ _ _ _ r h => by simp [spec_l01Can.l1] at h⟩
 | k + 1 => by
  obtain ⟨ih0, ih1⟩ := spec_l01Can.mono_l k
  refine ⟨?_, ?_⟩
  ·
   intro y0 y1 y2 y3 y4 y5
   unfold spec_l01Can.l0
   repeat' first
   | (with_reducible exact ih0 _ _ _ _ _ _)
   | (with_reducible exact ih1 _ _ _ _ _ _ _)
   | (with_reducible exact spec_l01Lay.mono _ _)
   | (with_reducible exact LeO.refl _)
   | (with_reducible exact LeO.none _)
   | (with_reducible refine LeO.ite ?_ ?_)
   | (with_reducible refine LeO.bind ?_ (fun _ => ?_))
   | exact ih0 _ _ _ _ _ _
   | exact ih1 _ _ _ _ _ _ _
   | exact spec_l01Lay.mono _ _
   | exact LeO.none _
   | refine LeO.ite ?_ ?_
   | refine LeO.bind ?_ (fun _ => ?_)
  ·
   intro y0 y1 y2 y3 y4 y5 y6
   unfold spec_l01Can.l1
   repeat' first
   | (with_reducible exact ih0 _ _ _ _ _ _)
   | (with_reducible exact ih1 _ _ _ _ _ _ _)
   | (with_reducible exact spec_l01Lay.mono _ _)
   | (with_reducible exact LeO.refl _)
   | (with_reducible exact LeO.none _)
   | (with_reducible refine LeO.ite ?_ ?_)
   | (with_reducible refine LeO.bind ?_ (fun _ => ?_))
   | exact ih0 _ _ _ _ _ _
   | exact ih1 _ _ _ _ _ _ _
   | exact spec_l01Lay.mono _ _
   | exact LeO.none _
   | refine LeO.ite ?_ ?_
   | refine LeO.bind ?_ (fun _ => ?_)
theorem spec_l01Can.mono : ∀ a0 a1 a2 a3 a4 k, LeO (spec_l01Can.f k a0 a1 a2 a3 a4) (spec_l01Can.f (k + 1) a0 a1 a2 a3 a4) := by
 intro a0 a1 a2 a3 a4 k
 obtain ⟨ih0, ih1⟩ := spec_l01Can.mono_l k
 unfold spec_l01Can.f
 repeat' first
   | (with_reducible exact ih0 _ _ _ _ _ _)
   | (with_reducible exact ih1 _ _ _ _ _ _ _)
   | (with_reducible exact spec_l01Lay.mono _ _)
   | (with_reducible exact LeO.refl _)
   | (with_reducible exact LeO.none _)
   | (with_reducible refine LeO.ite ?_ ?_)
   | (with_reducible refine LeO.bind ?_ (fun _ => ?_))
   | exact ih0 _ _ _ _ _ _
   | exact ih1 _ _ _ _ _ _ _
   | exact spec_l01Lay.mono _ _
   | exact LeO.none _
   | refine LeO.ite ?_ ?_
   | refine LeO.bind ?_ (fun _ => ?_)
set_option maxHeartbeats 8000000 in
set_option maxRecDepth 100000 in
theorem spec_l01Can.calls (k : Nat) (A0 : Option Addr) (c0 : Nat) (l0 : List (S30)) (a1_0 : Int) (a1_1 : Int) (a1_2 : Int) (a1_3 : Int) (r : Bool) (w : World) (hr0 : Kd.C k30 w A0 l0.length l0) (hc0 : l0.length ≤ c0) (h : spec_l01Can.f k l0 a1_0 a1_1 a1_2 a1_3 = some r) :
  Calls Try.prog 49 #[.pointer A0, .agg #[.int .i8 a1_0, .int .i8 a1_1, .int .i8 a1_2, .int .i8 a1_3]] w fun e w' => e = .returned (.bool r) ∧ Below w.heap.size w w' := by
 have hu38 := Try.underlying38
 have hu83 := Try.underlying83
 have HR0 := Aside0.mk hr0
 have HC0 := Aside0.mk hc0
 clear hr0 hc0
 have HB := Aside0.mk (Below.refl w.heap.size w)
 have H : ((spec_l01Lies.f l0 a1_0 a1_1 a1_2 a1_3).bind fun t237 => (if t237 = true then ((spec_l01Lay.f k l0).bind fun bt238 => (if bt238.1.length = 144 then (spec_l01Can.l0 k a1_1 a1_0 a1_1 a1_2 a1_3 bt238.1) else (none))) else (some false))) = some r := h
 clear h
 replace H := Option.bind_eq_some_iff.mp H
 obtain ⟨t237, A30, H⟩ := H
 replace H : (if t237 = true then ((spec_l01Lay.f k l0).bind fun bt238 => (if bt238.1.length = 144 then (spec_l01Can.l0 k a1_1 a1_0 a1_1 a1_2 a1_3 bt238.1) else (none))) else (some false)) = some r := H
 have A3 := Aside0.mk A30
 clear A30
 by_cases c4 : t237 = true
 ·
  subst c4
  have H1 : ((spec_l01Lay.f k l0).bind fun bt238 => (if bt238.1.length = 144 then (spec_l01Can.l0 k a1_1 a1_0 a1_1 a1_2 a1_3 bt238.1) else (none))) = some r := by rw [if_pos rfl] at H; exact H
  clear H
  have H := H1
  clear H1
  replace H := Option.bind_eq_some_iff.mp H
  obtain ⟨⟨t238, t239⟩, A50, H⟩ := H
  replace H : (if t238.length = 144 then (spec_l01Can.l0 k a1_1 a1_0 a1_1 a1_2 a1_3 t238) else (none)) = some r := H
  have A5 := Aside0.mk A50
  clear A50
  by_cases c6 : t238.length = 144
  ·
   rw [if_pos c6] at H
   have c6b0 := eq_true c6
   have c6b1 : decide (t238.length = 144) = true := decide_eq_true c6
   clear c6
   have H' := Aside0.mk H
   clear H
   go_enter Try.func49, Try.ntmps49
   go_wp2_with (first | ((with_reducible refine gate_dst (N := 3) rfl ?_); refine box_event ?hg (N := 3) ?hd (cs := #[.int .i8 a1_0, .int .i8 a1_1, .int .i8 a1_2, .int .i8 a1_3]) (t := 38) ?hr ?_; (case hd => rfl); (case hg => rfl); (case hr => first | (go_simp; done) | (go_simp; rfl)); intro gb236 hg w7 hbox hb; have n0_ := Aside0.mk (below_step (by repeat (first | (with_reducible first | exact HB.out | apply below_alloc | apply pw_below_drewN | apply below_drew1) | exact HB.out)) hb); have n1_ := Aside0.mk (hbox); have n2_ := Aside0.mk ((by rw [hg]; exact (below_size (by repeat (first | (with_reducible first | exact HB.out | apply below_alloc | apply pw_below_drewN | apply below_drew1) | exact HB.out))) : w.heap.size ≤ gb236)); have n3_ := Aside0.mk ((by rw [hg]; exact (below_size (by repeat (first | (with_reducible first | exact HB.out | apply below_alloc | apply pw_below_drewN | apply below_drew1) | exact HB.out))) : w.heap.size ≤ gb236)); clear HB; have HB := n0_; have BK236 := n1_; have GW236 := n2_; have GE236 := n3_; clear n0_ n1_ n2_ n3_; clear hb hbox hg; have hcz8_0 : w7.cell? ⟨gb236, 0, none⟩ = some (.int .i8 a1_0) := (blk_cell BK236.out 0).trans rfl; have hcz8_1 : w7.cell? ⟨gb236, 1, none⟩ = some (.int .i8 a1_1) := (blk_cell BK236.out 1).trans rfl; have hcz8_2 : w7.cell? ⟨gb236, 2, none⟩ = some (.int .i8 a1_2) := (blk_cell BK236.out 2).trans rfl; have hcz8_3 : w7.cell? ⟨gb236, 3, none⟩ = some (.int .i8 a1_3) := (blk_cell BK236.out 3).trans rfl; have hfz8_0 := blk_frozen BK236.out 0; have hfz8_1 := blk_frozen BK236.out 1; have hfz8_2 := blk_frozen BK236.out 2; have hfz8_3 := blk_frozen BK236.out 3) | ((with_reducible refine gate_callee (f := 78) rfl ?_); refine goesL_ (some 11) rfl rfl Try.func78 (by kernel_rfl) rfl #[.pointer A0, .agg #[.int .i8 a1_0, .int .i8 a1_1, .int .i8 a1_2, .int .i8 a1_3]] rfl (by (try simp only [List.map_toArray, List.map_cons, List.map_nil]); first | done | rfl | (simp only [List.length_drop, List.length_take]; rfl)) ?_; (with_reducible refine (spec_l01Lies.calls _ c0 l0 a1_0 a1_1 a1_2 a1_3 true _ ?side1 ?side2 A3.out).mono ?_); (case side1 => repeat (first | exact (Kd.C_below HR0.out HB.out) | (with_reducible refine Kd.C_alloc ?_ _) | (with_reducible refine Kd.C_drewN ?_ _) | (with_reducible refine Kd.C_drew ?_))); (case side2 => exact HC0.out); rintro e w9 ⟨rfl, hb⟩; refine ⟨_, rfl, ?_⟩; have n0_ := Aside0.mk (blk_below (g := gb236) (o := .cells #[.int .i8 a1_0, .int .i8 a1_1, .int .i8 a1_2, .int .i8 a1_3] 38 (0, 0)) (by (with_reducible repeat (first | refine blk_drewN ?_ _ | refine blk_drew ?_ | refine blk_alloc ?_ _)); exact BK236.out) hb); have n1_ := Aside0.mk (below_step (by repeat (first | (with_reducible first | exact HB.out | apply below_alloc | apply pw_below_drewN | apply below_drew1 | refine below_set ?_ GE236.out) | exact HB.out)) hb); clear BK236; clear HB; have BK236 := n0_; have HB := n1_; clear n0_ n1_; (try clear hb); (try clear hb2); (try clear hk); (try clear hi)) | ((with_reducible refine gate_callee (f := 55) rfl ?_); refine goesL_ (some 15) rfl rfl Try.func55 (by kernel_rfl) rfl #[.pointer A0] rfl (by (try simp only [List.map_toArray, List.map_cons, List.map_nil]); first | done | rfl | (simp only [List.length_drop, List.length_take]; rfl)) ?_; (with_reducible refine (spec_l01Lay.calls k _ c0 l0 t238 t239 _ ?side1 ?side2 A5.out).mono ?_); (case side1 => repeat (first | exact (Kd.C_below HR0.out HB.out) | (with_reducible refine Kd.C_alloc ?_ _) | (with_reducible refine Kd.C_drewN ?_ _) | (with_reducible refine Kd.C_drew ?_))); (case side2 => exact HC0.out); rintro e w10 ⟨rfl, hb⟩; refine ⟨_, rfl, ?_⟩; have n0_ := Aside0.mk (blk_below (g := gb236) (o := .cells #[.int .i8 a1_0, .int .i8 a1_1, .int .i8 a1_2, .int .i8 a1_3] 38 (0, 0)) (by (with_reducible repeat (first | refine blk_drewN ?_ _ | refine blk_drew ?_ | refine blk_alloc ?_ _)); exact BK236.out) hb); have n1_ := Aside0.mk (below_step (by repeat (first | (with_reducible first | exact HB.out | apply below_alloc | apply pw_below_drewN | apply below_drew1 | refine below_set ?_ GE236.out) | exact HB.out)) hb); clear BK236; clear HB; have BK236 := n0_; have HB := n1_; clear n0_ n1_; (try clear hb); (try clear hb2); (try clear hk); (try clear hi)) | ((with_reducible refine gate_dst (N := 5) rfl ?_); refine box_event ?hg (N := 5) ?hd (cs := (arrC .i64 (arrZ 144))) (t := 83) ?hr ?_; (case hd => rfl); (case hg => rfl); (case hr => exact arr_alloc rfl .i64 144 (by kernel_rfl)); intro gb240 hg w11 hbox hb; have n0_ := Aside0.mk (blk_below (g := gb236) (o := .cells #[.int .i8 a1_0, .int .i8 a1_1, .int .i8 a1_2, .int .i8 a1_3] 38 (0, 0)) (by (with_reducible repeat (first | refine blk_drewN ?_ _ | refine blk_drew ?_ | refine blk_alloc ?_ _)); exact BK236.out) hb); have n1_ := Aside0.mk (below_step (by repeat (first | (with_reducible first | exact HB.out | apply below_alloc | apply pw_below_drewN | apply below_drew1 | refine below_set ?_ GE236.out) | exact HB.out)) hb); have n2_ := Aside0.mk (hbox); have n3_ := Aside0.mk ((by rw [hg]; exact (below_size (by repeat (first | (with_reducible first | exact HB.out | apply below_alloc | apply pw_below_drewN | apply below_drew1 | refine below_set ?_ GE236.out) | exact HB.out))) : w.heap.size ≤ gb240)); have n4_ := Aside0.mk ((by rw [hg]; exact (below_size (by repeat (first | (with_reducible first | exact HB.out | apply below_alloc | apply pw_below_drewN | apply below_drew1 | refine below_set ?_ GE236.out) | exact HB.out))) : w.heap.size ≤ gb240)); have n5_ := Aside0.mk ((by rw [hg]; exact Nat.ne_of_lt (blk_lt (g := gb236) (o := .cells #[.int .i8 a1_0, .int .i8 a1_1, .int .i8 a1_2, .int .i8 a1_3] 38 (0, 0)) (by (with_reducible repeat (first | refine blk_drewN ?_ _ | refine blk_drew ?_ | refine blk_alloc ?_ _)); exact BK236.out)) : gb236 ≠ gb240)); have n6_ := Aside0.mk ((by rw [hg]; exact Nat.ne_of_gt (blk_lt (g := gb236) (o := .cells #[.int .i8 a1_0, .int .i8 a1_1, .int .i8 a1_2, .int .i8 a1_3] 38 (0, 0)) (by (with_reducible repeat (first | refine blk_drewN ?_ _ | refine blk_drew ?_ | refine blk_alloc ?_ _)); exact BK236.out)) : gb240 ≠ gb236)); clear BK236; clear HB; have BK236 := n0_; have HB := n1_; have BK240 := n2_; have GW240 := n3_; have GE240 := n4_; have NB236_240 := n5_; have NB240_236 := n6_; clear n0_ n1_ n2_ n3_ n4_ n5_ n6_; clear hb hbox hg) | ((with_reducible refine gate_store (t := 83) (p := 5) rfl ?_); refine arr_store (p := 5) (v := ?vv_w12) (n := 144) (k := .i64) (g := gb240) (l := (arrZ 144)) (l2 := t238) ?hg ?hn (t := 83) ?ho ?hp ?hv (by (with_reducible repeat (first | refine blk_drewN ?_ _ | refine blk_drew ?_ | refine blk_alloc ?_ _)); exact BK240.out) (by kernel_rfl) (arrZ_length _) (of_decide_eq_true (by first | (with_reducible assumption) | assumption)) ?_; (case ho => rfl); (case hg => rfl); (case hn => rfl); (case hp => rfl); (case hv => rfl); intro w12 hg hx; have n0_ := Aside0.mk (blk_grown (g := gb236) (o := .cells #[.int .i8 a1_0, .int .i8 a1_1, .int .i8 a1_2, .int .i8 a1_3] 38 (0, 0)) (by (with_reducible repeat (first | refine blk_drewN ?_ _ | refine blk_drew ?_ | refine blk_alloc ?_ _)); exact BK236.out) hg (fun e_ => NB236_240.out (Option.some.inj e_))); have n1_ := Aside0.mk (hx); have n2_ := Aside0.mk (Below.grown (by repeat (first | (with_reducible first | exact HB.out | apply below_alloc | apply pw_below_drewN | apply below_drew1 | refine below_set ?_ GE236.out | refine below_set ?_ GE240.out) | exact HB.out)) hg (below_size (by repeat (first | (with_reducible first | exact HB.out | apply below_alloc | apply pw_below_drewN | apply below_drew1 | refine below_set ?_ GE236.out | refine below_set ?_ GE240.out) | exact HB.out))) (fun k_ e_ => by cases e_; exact GE240.out)); clear BK236; clear BK240; clear HB; have BK236 := n0_; have BK240 := n1_; have HB := n2_; clear n0_ n1_ n2_; clear hg hx; have hnb13 := NB236_240.out; have hnc13 := NB240_236.out; have hcz14_0 : w12.cell? ⟨gb236, 0, none⟩ = some (.int .i8 a1_0) := (blk_cell BK236.out 0).trans rfl; have hcz14_1 : w12.cell? ⟨gb236, 1, none⟩ = some (.int .i8 a1_1) := (blk_cell BK236.out 1).trans rfl; have hcz14_2 : w12.cell? ⟨gb236, 2, none⟩ = some (.int .i8 a1_2) := (blk_cell BK236.out 2).trans rfl; have hcz14_3 : w12.cell? ⟨gb236, 3, none⟩ = some (.int .i8 a1_3) := (blk_cell BK236.out 3).trans rfl; have hfz14_0 := blk_frozen BK236.out 0; have hfz14_1 := blk_frozen BK236.out 1; have hfz14_2 := blk_frozen BK236.out 2; have hfz14_3 := blk_frozen BK236.out 3))
   go_loopg [7] k (fun kq v7 w' => ∃ (x7_1 : Int), v7 = .int .i8 x7_1 ∧ Aside0 (spec_l01Can.l0 kq x7_1 a1_0 a1_1 a1_2 a1_3 t238 = some r) ∧ Aside0 (kq ≤ k) ∧ Aside0 (w'.heap[gb236]? = some (.cells #[.int .i8 a1_0, .int .i8 a1_1, .int .i8 a1_2, .int .i8 a1_3] 38 (0, 0))) ∧ Aside0 (w'.heap[gb240]? = some (.cells (arrC .i64 t238) 83 (0, 0))) ∧ Aside0 (Below w.heap.size w w'))
   case atStart => exact ⟨(a1_1), (by first | rfl | (simp; done) | (simp [*]; done)), H', ⟨Nat.le_refl _⟩, ⟨by (with_reducible repeat (first | refine blk_drewN ?_ _ | refine blk_drew ?_ | refine blk_alloc ?_ _)); exact BK236.out⟩, ⟨by (with_reducible repeat (first | refine blk_drewN ?_ _ | refine blk_drew ?_ | refine blk_alloc ?_ _)); exact BK240.out⟩, ⟨by repeat (first | (with_reducible first | exact HB.out | apply below_alloc | apply pw_below_drewN | apply below_drew1 | refine below_set ?_ GE236.out | refine below_set ?_ GE240.out) | exact HB.out)⟩⟩
   case round =>
    clear H'
    try clear c1
    try clear p2
    try clear c4
    try clear c5
    try clear c6
    try clear c6b0
    try clear c6b1
    try clear c7
    try clear c13
    try clear hcz14_0
    try clear hcz14_1
    try clear hcz14_2
    try clear hcz14_3
    try clear hcz8_0
    try clear hcz8_1
    try clear hcz8_2
    try clear hcz8_3
    try clear hfz14_0
    try clear hfz14_1
    try clear hfz14_2
    try clear hfz14_3
    try clear hfz8_0
    try clear hfz8_1
    try clear hfz8_2
    try clear hfz8_3
    obtain ⟨x7_1, rfl, HA, HK1, BK236, BK240, HB⟩ := hrel
    cases gk with
    | zero => exact absurd HA.out (by simp [spec_l01Can.l0])
    | succ k1 =>
     have H := HA.out
     clear HA
     simp only [spec_l01Can.l0] at H
     by_cases c15 : x7_1 < (IntKind.i8.wrap (a1_1 + a1_3))
     ·
      rw [if_pos c15] at H
      have c15b0 : decide (x7_1 < (IntKind.i8.wrap (a1_1 + a1_3))) = true := decide_eq_true c15
      clear c15
      have H' := Aside0.mk H
      clear H
      have hnb16 := NB236_240.out
      have hnc16 := NB240_236.out
      have hcz17_0 : wr.cell? ⟨gb236, 0, none⟩ = some (.int .i8 a1_0) := (blk_cell BK236.out 0).trans rfl
      have hcz17_1 : wr.cell? ⟨gb236, 1, none⟩ = some (.int .i8 a1_1) := (blk_cell BK236.out 1).trans rfl
      have hcz17_2 : wr.cell? ⟨gb236, 2, none⟩ = some (.int .i8 a1_2) := (blk_cell BK236.out 2).trans rfl
      have hcz17_3 : wr.cell? ⟨gb236, 3, none⟩ = some (.int .i8 a1_3) := (blk_cell BK236.out 3).trans rfl
      have hfz17_0 := blk_frozen BK236.out 0
      have hfz17_1 := blk_frozen BK236.out 1
      have hfz17_2 := blk_frozen BK236.out 2
      have hfz17_3 := blk_frozen BK236.out 3
      go_wp2
      go_loopg [8] k1 (fun kq v8 w' => ∃ (x8_2 : Int), v8 = .int .i8 x8_2 ∧ Aside0 (spec_l01Can.l1 kq x7_1 x8_2 a1_0 a1_1 a1_2 a1_3 t238 = some r) ∧ Aside0 (kq ≤ k1) ∧ Aside0 (w'.heap[gb236]? = some (.cells #[.int .i8 a1_0, .int .i8 a1_1, .int .i8 a1_2, .int .i8 a1_3] 38 (0, 0))) ∧ Aside0 (w'.heap[gb240]? = some (.cells (arrC .i64 t238) 83 (0, 0))) ∧ Aside0 (Below w.heap.size w w'))
      case atStart => exact ⟨(a1_0), (by first | rfl | (simp; done) | (simp [*]; done)), H', ⟨Nat.le_refl _⟩, ⟨by (with_reducible repeat (first | refine blk_drewN ?_ _ | refine blk_drew ?_ | refine blk_alloc ?_ _)); exact BK236.out⟩, ⟨by (with_reducible repeat (first | refine blk_drewN ?_ _ | refine blk_drew ?_ | refine blk_alloc ?_ _)); exact BK240.out⟩, ⟨by repeat (first | (with_reducible first | exact HB.out | apply below_alloc | apply pw_below_drewN | apply below_drew1 | refine below_set ?_ GE236.out | refine below_set ?_ GE240.out) | exact HB.out)⟩⟩
      case round =>
       clear H'
       try clear c1
       try clear p2
       try clear c4
       try clear c5
       try clear c6
       try clear c6b0
       try clear c6b1
       try clear c7
       try clear c13
       try clear c15
       try clear c15b0
       try clear c16
       try clear hcz14_0
       try clear hcz14_1
       try clear hcz14_2
       try clear hcz14_3
       try clear hcz17_0
       try clear hcz17_1
       try clear hcz17_2
       try clear hcz17_3
       try clear hcz8_0
       try clear hcz8_1
       try clear hcz8_2
       try clear hcz8_3
       try clear hfz14_0
       try clear hfz14_1
       try clear hfz14_2
       try clear hfz14_3
       try clear hfz17_0
       try clear hfz17_1
       try clear hfz17_2
       try clear hfz17_3
       try clear hfz8_0
       try clear hfz8_1
       try clear hfz8_2
       try clear hfz8_3
       try clear p2
       obtain ⟨x8_2, rfl, HA, HK2, BK236, BK240, HB⟩ := hrel
       cases gk with
       | zero => exact absurd HA.out (by simp [spec_l01Can.l1])
       | succ k2 =>
        have H := HA.out
        clear HA
        simp only [spec_l01Can.l1] at H
        by_cases c18 : x8_2 < (IntKind.i8.wrap (a1_0 + a1_2))
        ·
         rw [if_pos c18] at H
         have c18b0 : decide (x8_2 < (IntKind.i8.wrap (a1_0 + a1_2))) = true := decide_eq_true c18
         clear c18
         by_cases c19 : 0 ≤ x7_1
         ·
          rw [if_pos c19] at H
          have c19b0 : decide (0 ≤ x7_1) = true := decide_eq_true c19
          clear c19
          by_cases c20 : x7_1 < 12
          ·
           rw [if_pos c20] at H
           have c20b0 : decide (x7_1 < 12) = true := decide_eq_true c20
           clear c20
           by_cases c22 : 0 ≤ x8_2
           ·
            rw [if_pos c22] at H
            have c22b0 : decide (0 ≤ x8_2) = true := decide_eq_true c22
            clear c22
            by_cases c23 : x8_2 < 12
            ·
             rw [if_pos c23] at H
             have c23b0 : decide (x8_2 < 12) = true := decide_eq_true c23
             clear c23
             by_cases c25 : x7_1 * 12 + x8_2 < (t238.length : Int)
             ·
              rw [if_pos c25] at H
              have c25b0 := eq_true c25
              have c25b1 : decide (x7_1 * 12 + x8_2 < (t238.length : Int)) = true := decide_eq_true c25
              by_cases c26 : (rd t238 (x7_1 * 12 + x8_2)) = 0
              ·
               rw [if_pos c26] at H
               have c26b0 : ((rd t238 (x7_1 * 12 + x8_2)) == 0) = true := beq_iff_eq.mpr c26
               have c26b1 : ((rd t238 (x7_1 * 12 + x8_2)) != 0) = false := bne_eq_false_iff_eq.mpr c26
               clear c26
               have H' := Aside0.mk H
               clear H
               have hnb27 := NB236_240.out
               have hnc27 := NB240_236.out
               have hcz28_0 : wr.cell? ⟨gb236, 0, none⟩ = some (.int .i8 a1_0) := (blk_cell BK236.out 0).trans rfl
               have hcz28_1 : wr.cell? ⟨gb236, 1, none⟩ = some (.int .i8 a1_1) := (blk_cell BK236.out 1).trans rfl
               have hcz28_2 : wr.cell? ⟨gb236, 2, none⟩ = some (.int .i8 a1_2) := (blk_cell BK236.out 2).trans rfl
               have hcz28_3 : wr.cell? ⟨gb236, 3, none⟩ = some (.int .i8 a1_3) := (blk_cell BK236.out 3).trans rfl
               have hfz28_0 := blk_frozen BK236.out 0
               have hfz28_1 := blk_frozen BK236.out 1
               have hfz28_2 := blk_frozen BK236.out 2
               have hfz28_3 := blk_frozen BK236.out 3
               have p21 : 0 ≤ (x7_1 : Int) := of_decide_eq_true (by first | (with_reducible assumption) | assumption)
               have q21 : (x7_1 : Int) < (12 : Int) := of_decide_eq_true (by first | (with_reducible assumption) | assumption)
               replace p21 := eq_true p21
               replace q21 := eq_true q21
               have p24 : 0 ≤ (x8_2 : Int) := of_decide_eq_true (by first | (with_reducible assumption) | assumption)
               have q24 : (x8_2 : Int) < (12 : Int) := of_decide_eq_true (by first | (with_reducible assumption) | assumption)
               replace p24 := eq_true p24
               replace q24 := eq_true q24
               have haz29 : wr.cell? ⟨gb240, x7_1.toNat * 12 + x8_2.toNat, none⟩ = some (.int .i64 (rd t238 (x7_1 * 12 + x8_2))) := arr_cell (by (with_reducible repeat (first | refine blk_drewN ?_ _ | refine blk_drew ?_ | refine blk_alloc ?_ _)); exact BK240.out) (x7_1 * 12 + x8_2) _ (by have h0_ : (0 : Int) ≤ x7_1 := of_decide_eq_true (by first | (with_reducible assumption) | assumption); have h1_ : (0 : Int) ≤ x8_2 := of_decide_eq_true (by first | (with_reducible assumption) | assumption); omega) (of_decide_eq_true (by first | (with_reducible assumption) | assumption))
               go_wp2
               go_roundg k2
               case measure => have := HK1.out; have := HK2.out; omega
               case rel => exact ⟨(IntKind.i8.wrap (x8_2 + 1)), (by first | rfl | (simp; done) | (simp [*]; done)), H', ⟨by have := HK1.out; have := HK2.out; omega⟩, ⟨by (with_reducible repeat (first | refine blk_drewN ?_ _ | refine blk_drew ?_ | refine blk_alloc ?_ _)); exact BK236.out⟩, ⟨by (with_reducible repeat (first | refine blk_drewN ?_ _ | refine blk_drew ?_ | refine blk_alloc ?_ _)); exact BK240.out⟩, ⟨by repeat (first | (with_reducible first | exact HB.out | apply below_alloc | apply pw_below_drewN | apply below_drew1 | refine below_set ?_ GE236.out | refine below_set ?_ GE240.out) | exact HB.out)⟩⟩
              ·
               rw [if_neg c26] at H
               have c26b0 : ((rd t238 (x7_1 * 12 + x8_2)) == 0) = false := beq_eq_false_iff_ne.mpr c26
               have c26b1 : ((rd t238 (x7_1 * 12 + x8_2)) != 0) = true := bne_iff_ne.mpr c26
               obtain rfl := Option.some.inj H
               have hnb30 := NB236_240.out
               have hnc30 := NB240_236.out
               have hcz31_0 : wr.cell? ⟨gb236, 0, none⟩ = some (.int .i8 a1_0) := (blk_cell BK236.out 0).trans rfl
               have hcz31_1 : wr.cell? ⟨gb236, 1, none⟩ = some (.int .i8 a1_1) := (blk_cell BK236.out 1).trans rfl
               have hcz31_2 : wr.cell? ⟨gb236, 2, none⟩ = some (.int .i8 a1_2) := (blk_cell BK236.out 2).trans rfl
               have hcz31_3 : wr.cell? ⟨gb236, 3, none⟩ = some (.int .i8 a1_3) := (blk_cell BK236.out 3).trans rfl
               have hfz31_0 := blk_frozen BK236.out 0
               have hfz31_1 := blk_frozen BK236.out 1
               have hfz31_2 := blk_frozen BK236.out 2
               have hfz31_3 := blk_frozen BK236.out 3
               have p21 : 0 ≤ (x7_1 : Int) := of_decide_eq_true (by first | (with_reducible assumption) | assumption)
               have q21 : (x7_1 : Int) < (12 : Int) := of_decide_eq_true (by first | (with_reducible assumption) | assumption)
               replace p21 := eq_true p21
               replace q21 := eq_true q21
               have p24 : 0 ≤ (x8_2 : Int) := of_decide_eq_true (by first | (with_reducible assumption) | assumption)
               have q24 : (x8_2 : Int) < (12 : Int) := of_decide_eq_true (by first | (with_reducible assumption) | assumption)
               replace p24 := eq_true p24
               replace q24 := eq_true q24
               have haz32 : wr.cell? ⟨gb240, x7_1.toNat * 12 + x8_2.toNat, none⟩ = some (.int .i64 (rd t238 (x7_1 * 12 + x8_2))) := arr_cell (by (with_reducible repeat (first | refine blk_drewN ?_ _ | refine blk_drew ?_ | refine blk_alloc ?_ _)); exact BK240.out) (x7_1 * 12 + x8_2) _ (by have h0_ : (0 : Int) ≤ x7_1 := of_decide_eq_true (by first | (with_reducible assumption) | assumption); have h1_ : (0 : Int) ≤ x8_2 := of_decide_eq_true (by first | (with_reducible assumption) | assumption); omega) (of_decide_eq_true (by first | (with_reducible assumption) | assumption))
               go_wp2
               go_ret
               exact ⟨by first | rfl | (simp [errW_none, errW_some] <;> rfl) | (simp [*, errW_none, errW_some] <;> rfl), by repeat (first | (with_reducible first | exact HB.out | apply below_alloc | apply pw_below_drewN | apply below_drew1 | refine below_set ?_ GE236.out | refine below_set ?_ GE240.out) | exact HB.out)⟩
             ·
              rw [if_neg c25] at H
              exact absurd H (by simp)
            ·
             rw [if_neg c23] at H
             exact absurd H (by simp)
           ·
            rw [if_neg c22] at H
            exact absurd H (by simp)
          ·
           rw [if_neg c20] at H
           exact absurd H (by simp)
         ·
          rw [if_neg c19] at H
          exact absurd H (by simp)
        ·
         rw [if_neg c18] at H
         have c18b0 : decide (x8_2 < (IntKind.i8.wrap (a1_0 + a1_2))) = false := decide_eq_false c18
         clear c18
         have H' := Aside0.mk H
         clear H
         have hnb33 := NB236_240.out
         have hnc33 := NB240_236.out
         have hcz34_0 : wr.cell? ⟨gb236, 0, none⟩ = some (.int .i8 a1_0) := (blk_cell BK236.out 0).trans rfl
         have hcz34_1 : wr.cell? ⟨gb236, 1, none⟩ = some (.int .i8 a1_1) := (blk_cell BK236.out 1).trans rfl
         have hcz34_2 : wr.cell? ⟨gb236, 2, none⟩ = some (.int .i8 a1_2) := (blk_cell BK236.out 2).trans rfl
         have hcz34_3 : wr.cell? ⟨gb236, 3, none⟩ = some (.int .i8 a1_3) := (blk_cell BK236.out 3).trans rfl
         have hfz34_0 := blk_frozen BK236.out 0
         have hfz34_1 := blk_frozen BK236.out 1
         have hfz34_2 := blk_frozen BK236.out 2
         have hfz34_3 := blk_frozen BK236.out 3
         go_wp2
         go_roundg k2
         case measure => have := HK1.out; have := HK2.out; omega
         case rel => exact ⟨(IntKind.i8.wrap (x7_1 + 1)), (by first | rfl | (simp; done) | (simp [*]; done)), H', ⟨by have := HK1.out; have := HK2.out; omega⟩, ⟨by (with_reducible repeat (first | refine blk_drewN ?_ _ | refine blk_drew ?_ | refine blk_alloc ?_ _)); exact BK236.out⟩, ⟨by (with_reducible repeat (first | refine blk_drewN ?_ _ | refine blk_drew ?_ | refine blk_alloc ?_ _)); exact BK240.out⟩, ⟨by repeat (first | (with_reducible first | exact HB.out | apply below_alloc | apply pw_below_drewN | apply below_drew1 | refine below_set ?_ GE236.out | refine below_set ?_ GE240.out) | exact HB.out)⟩⟩
     ·
      rw [if_neg c15] at H
      have c15b0 : decide (x7_1 < (IntKind.i8.wrap (a1_1 + a1_3))) = false := decide_eq_false c15
      clear c15
      obtain rfl := Option.some.inj H
      have hnb35 := NB236_240.out
      have hnc35 := NB240_236.out
      have hcz36_0 : wr.cell? ⟨gb236, 0, none⟩ = some (.int .i8 a1_0) := (blk_cell BK236.out 0).trans rfl
      have hcz36_1 : wr.cell? ⟨gb236, 1, none⟩ = some (.int .i8 a1_1) := (blk_cell BK236.out 1).trans rfl
      have hcz36_2 : wr.cell? ⟨gb236, 2, none⟩ = some (.int .i8 a1_2) := (blk_cell BK236.out 2).trans rfl
      have hcz36_3 : wr.cell? ⟨gb236, 3, none⟩ = some (.int .i8 a1_3) := (blk_cell BK236.out 3).trans rfl
      have hfz36_0 := blk_frozen BK236.out 0
      have hfz36_1 := blk_frozen BK236.out 1
      have hfz36_2 := blk_frozen BK236.out 2
      have hfz36_3 := blk_frozen BK236.out 3
      go_wp2
      go_ret
      exact ⟨by first | rfl | (simp [errW_none, errW_some] <;> rfl) | (simp [*, errW_none, errW_some] <;> rfl), by repeat (first | (with_reducible first | exact HB.out | apply below_alloc | apply pw_below_drewN | apply below_drew1 | refine below_set ?_ GE236.out | refine below_set ?_ GE240.out) | exact HB.out)⟩
  ·
   rw [if_neg c6] at H
   exact absurd H (by simp)
 ·
  replace c4 := Bool.eq_false_iff.mpr c4
  subst c4
  have H1 : (some false) = some r := by rw [if_neg (show ¬ (false = true) by decide)] at H; exact H
  clear H
  have H := H1
  clear H1
  obtain rfl := Option.some.inj H
  go_enter Try.func49, Try.ntmps49
  go_wp2_with (first | ((with_reducible refine gate_dst (N := 3) rfl ?_); refine box_event ?hg (N := 3) ?hd (cs := #[.int .i8 a1_0, .int .i8 a1_1, .int .i8 a1_2, .int .i8 a1_3]) (t := 38) ?hr ?_; (case hd => rfl); (case hg => rfl); (case hr => first | (go_simp; done) | (go_simp; rfl)); intro gb236 hg w37 hbox hb; have n0_ := Aside0.mk (below_step (by repeat (first | (with_reducible first | exact HB.out | apply below_alloc | apply pw_below_drewN | apply below_drew1) | exact HB.out)) hb); have n1_ := Aside0.mk (hbox); have n2_ := Aside0.mk ((by rw [hg]; exact (below_size (by repeat (first | (with_reducible first | exact HB.out | apply below_alloc | apply pw_below_drewN | apply below_drew1) | exact HB.out))) : w.heap.size ≤ gb236)); have n3_ := Aside0.mk ((by rw [hg]; exact (below_size (by repeat (first | (with_reducible first | exact HB.out | apply below_alloc | apply pw_below_drewN | apply below_drew1) | exact HB.out))) : w.heap.size ≤ gb236)); clear HB; have HB := n0_; have BK236 := n1_; have GW236 := n2_; have GE236 := n3_; clear n0_ n1_ n2_ n3_; clear hb hbox hg; have hcz38_0 : w37.cell? ⟨gb236, 0, none⟩ = some (.int .i8 a1_0) := (blk_cell BK236.out 0).trans rfl; have hcz38_1 : w37.cell? ⟨gb236, 1, none⟩ = some (.int .i8 a1_1) := (blk_cell BK236.out 1).trans rfl; have hcz38_2 : w37.cell? ⟨gb236, 2, none⟩ = some (.int .i8 a1_2) := (blk_cell BK236.out 2).trans rfl; have hcz38_3 : w37.cell? ⟨gb236, 3, none⟩ = some (.int .i8 a1_3) := (blk_cell BK236.out 3).trans rfl; have hfz38_0 := blk_frozen BK236.out 0; have hfz38_1 := blk_frozen BK236.out 1; have hfz38_2 := blk_frozen BK236.out 2; have hfz38_3 := blk_frozen BK236.out 3) | ((with_reducible refine gate_callee (f := 78) rfl ?_); refine goesL_ (some 11) rfl rfl Try.func78 (by kernel_rfl) rfl #[.pointer A0, .agg #[.int .i8 a1_0, .int .i8 a1_1, .int .i8 a1_2, .int .i8 a1_3]] rfl (by (try simp only [List.map_toArray, List.map_cons, List.map_nil]); first | done | rfl | (simp only [List.length_drop, List.length_take]; rfl)) ?_; (with_reducible refine (spec_l01Lies.calls _ c0 l0 a1_0 a1_1 a1_2 a1_3 false _ ?side1 ?side2 A3.out).mono ?_); (case side1 => repeat (first | exact (Kd.C_below HR0.out HB.out) | (with_reducible refine Kd.C_alloc ?_ _) | (with_reducible refine Kd.C_drewN ?_ _) | (with_reducible refine Kd.C_drew ?_))); (case side2 => exact HC0.out); rintro e w39 ⟨rfl, hb⟩; refine ⟨_, rfl, ?_⟩; have n0_ := Aside0.mk (blk_below (g := gb236) (o := .cells #[.int .i8 a1_0, .int .i8 a1_1, .int .i8 a1_2, .int .i8 a1_3] 38 (0, 0)) (by (with_reducible repeat (first | refine blk_drewN ?_ _ | refine blk_drew ?_ | refine blk_alloc ?_ _)); exact BK236.out) hb); have n1_ := Aside0.mk (below_step (by repeat (first | (with_reducible first | exact HB.out | apply below_alloc | apply pw_below_drewN | apply below_drew1 | refine below_set ?_ GE236.out) | exact HB.out)) hb); clear BK236; clear HB; have BK236 := n0_; have HB := n1_; clear n0_ n1_; (try clear hb); (try clear hb2); (try clear hk); (try clear hi)))
  go_ret
  exact ⟨by first | rfl | (simp [errW_none, errW_some] <;> rfl) | (simp [*, errW_none, errW_some] <;> rfl), by repeat (first | (with_reducible first | exact HB.out | apply below_alloc | apply pw_below_drewN | apply below_drew1 | refine below_set ?_ GE236.out) | exact HB.out)⟩
end Go.Proofs.Ytpelelodjigijaa.Q
