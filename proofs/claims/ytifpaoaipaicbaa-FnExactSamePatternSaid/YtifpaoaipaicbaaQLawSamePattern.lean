-- By a program of this session's, out of the translation (with the kit's print). Lean checks it.
import Derived.Test.YtifpaoaipaicbaaQ0
import Derived.Test.YtifpaoaipaicbaaQ19
import Derived.Test.YtifpaoaipaicbaaQ20
import Derived.Test.YtifpaoaipaicbaaQHPattern
namespace Go.Proofs.Ytifpaoaipaicbaa.Q
open Go.RowKit Go.Proofs.YtifpaoaipaicbaaW.PrintWords Go.Proofs.YtifpaoaipaicbaaW.PrintLast Go.Proofs.YtifpaoaipaicbaaW.PrintMore
attribute [local go_sem] max2_int min2_int max_two min_two max_three min_three max_four min_four
set_option linter.unusedVariables false
set_option linter.unusedSimpArgs false

/-! ### laws_FnExactSamePattern: function 14 -/
def laws_FnExactSamePattern.f (k : Nat) (a0_0 : Int) (a0_1 : Int) (a0_2 : Int) (l0_3 : List (S27)) (a1_0 : Int) (a1_1 : Int) (a1_2 : Int) (l1_3 : List (S27)) : Option (Bool) := (laws_szPattern.f a0_0 a0_1 a0_2 l0_3 1048576).bind fun t632 => (if t632 < 0 then (some true) else ((laws_szPattern.f a1_0 a1_1 a1_2 l1_3 t632).bind fun t633 => (if t633 < 0 then (some true) else ((laws_toPattern.f k a0_0 a0_1 a0_2 l0_3).bind fun bt634 => ((laws_toPattern.f k a1_0 a1_1 a1_2 l1_3).bind fun bt640 => ((spec_SamePattern.f k bt634.1 bt634.2.1 bt634.2.2.1 bt634.2.2.2 bt640.1 bt640.2.1 bt640.2.2.1 bt640.2.2.2).bind fun t646 => ((laws_toPattern.f k a0_0 a0_1 a0_2 l0_3).bind fun bt647 => ((laws_toPattern.f k a1_0 a1_1 a1_2 l1_3).bind fun bt654 => ((impl_SamePattern.f k bt647.1 bt647.2.1 bt647.2.2.1 bt647.2.2.2 bt654.1 bt654.2.1 bt654.2.2.1 bt654.2.2.2).bind fun t661 => (if (t661 != t646) = true then (some false) else ((laws_toPattern.f k a0_0 a0_1 a0_2 l0_3).bind fun bt662 => ((laws_eqPattern.f k bt647.1 bt647.2.1 bt647.2.2.1 bt647.2.2.2 bt662.1 bt662.2.1 bt662.2.2.1 bt662.2.2.2).bind fun t668 => (if t668 = true then ((laws_toPattern.f k a1_0 a1_1 a1_2 l1_3).bind fun bt669 => ((laws_eqPattern.f k bt654.1 bt654.2.1 bt654.2.2.1 bt654.2.2.2 bt669.1 bt669.2.1 bt669.2.2.1 bt669.2.2.2).bind fun t675 => (if t675 = true then (some true) else (some false)))) else (some false))))))))))))))
theorem laws_FnExactSamePattern.mono : ∀ a0 a1 a2 a3 a4 a5 a6 a7 k, LeO (laws_FnExactSamePattern.f k a0 a1 a2 a3 a4 a5 a6 a7) (laws_FnExactSamePattern.f (k + 1) a0 a1 a2 a3 a4 a5 a6 a7) := by
  intro a0 a1 a2 a3 a4 a5 a6 a7 k
  unfold laws_FnExactSamePattern.f
  repeat' first
      | (with_reducible exact impl_SamePattern.mono _ _ _ _ _ _ _ _ _)
      | (with_reducible exact laws_eqPattern.mono _ _ _ _ _ _ _ _ _)
      | (with_reducible exact laws_toPattern.mono _ _ _ _ _)
      | (with_reducible exact spec_SamePattern.mono _ _ _ _ _ _ _ _ _)
      | (with_reducible exact LeO.refl _)
      | (with_reducible exact LeO.none _)
      | (with_reducible refine LeO.ite ?_ ?_)
      | (with_reducible refine LeO.bind ?_ (fun _ => ?_))
      | exact impl_SamePattern.mono _ _ _ _ _ _ _ _ _
      | exact laws_eqPattern.mono _ _ _ _ _ _ _ _ _
      | exact laws_toPattern.mono _ _ _ _ _
      | exact spec_SamePattern.mono _ _ _ _ _ _ _ _ _
      | exact LeO.none _
      | refine LeO.ite ?_ ?_
      | refine LeO.bind ?_ (fun _ => ?_)
set_option maxHeartbeats 8000000 in
set_option maxRecDepth 100000 in
theorem laws_FnExactSamePattern.calls (k : Nat) (a0_0 : Int) (a0_1 : Int) (a0_2 : Int) (A0_3 : Option Addr) (c0_3 : Nat) (l0_3 : List (S27)) (a1_0 : Int) (a1_1 : Int) (a1_2 : Int) (A1_3 : Option Addr) (c1_3 : Nat) (l1_3 : List (S27)) (w : World) (hr0_3 : Kd.C k27 w A0_3 l0_3.length l0_3) (hc0_3 : l0_3.length ≤ c0_3) (hr1_3 : Kd.C k27 w A1_3 l1_3.length l1_3) (hc1_3 : l1_3.length ≤ c1_3) (h : laws_FnExactSamePattern.f k a0_0 a0_1 a0_2 l0_3 a1_0 a1_1 a1_2 l1_3 = some true) :
    Calls Try.prog 14 #[.agg #[.int .i8 a0_0, .int .i8 a0_1, .int .i8 a0_2, .slice A0_3 l0_3.length c0_3], .agg #[.int .i8 a1_0, .int .i8 a1_1, .int .i8 a1_2, .slice A1_3 l1_3.length c1_3]] w fun e w' => e = .returned (.bool true) ∧ Below w.heap.size w w' := by
  have hu64 := Try.underlying64
  have hu68 := Try.underlying68
  have HR0_3 := Aside0.mk hr0_3
  have HC0_3 := Aside0.mk hc0_3
  clear hr0_3 hc0_3
  have HR1_3 := Aside0.mk hr1_3
  have HC1_3 := Aside0.mk hc1_3
  clear hr1_3 hc1_3
  have HB := Aside0.mk (Below.refl w.heap.size w)
  have H : ((laws_szPattern.f a0_0 a0_1 a0_2 l0_3 1048576).bind fun t632 => (if t632 < 0 then (some true) else ((laws_szPattern.f a1_0 a1_1 a1_2 l1_3 t632).bind fun t633 => (if t633 < 0 then (some true) else ((laws_toPattern.f k a0_0 a0_1 a0_2 l0_3).bind fun bt634 => ((laws_toPattern.f k a1_0 a1_1 a1_2 l1_3).bind fun bt640 => ((spec_SamePattern.f k bt634.1 bt634.2.1 bt634.2.2.1 bt634.2.2.2 bt640.1 bt640.2.1 bt640.2.2.1 bt640.2.2.2).bind fun t646 => ((laws_toPattern.f k a0_0 a0_1 a0_2 l0_3).bind fun bt647 => ((laws_toPattern.f k a1_0 a1_1 a1_2 l1_3).bind fun bt654 => ((impl_SamePattern.f k bt647.1 bt647.2.1 bt647.2.2.1 bt647.2.2.2 bt654.1 bt654.2.1 bt654.2.2.1 bt654.2.2.2).bind fun t661 => (if (t661 != t646) = true then (some false) else ((laws_toPattern.f k a0_0 a0_1 a0_2 l0_3).bind fun bt662 => ((laws_eqPattern.f k bt647.1 bt647.2.1 bt647.2.2.1 bt647.2.2.2 bt662.1 bt662.2.1 bt662.2.2.1 bt662.2.2.2).bind fun t668 => (if t668 = true then ((laws_toPattern.f k a1_0 a1_1 a1_2 l1_3).bind fun bt669 => ((laws_eqPattern.f k bt654.1 bt654.2.1 bt654.2.2.1 bt654.2.2.2 bt669.1 bt669.2.1 bt669.2.2.1 bt669.2.2.2).bind fun t675 => (if t675 = true then (some true) else (some false)))) else (some false))))))))))))))) = some true := h
  clear h
  replace H := Option.bind_eq_some_iff.mp H
  obtain ⟨t632, A30, H⟩ := H
  replace H : (if t632 < 0 then (some true) else ((laws_szPattern.f a1_0 a1_1 a1_2 l1_3 t632).bind fun t633 => (if t633 < 0 then (some true) else ((laws_toPattern.f k a0_0 a0_1 a0_2 l0_3).bind fun bt634 => ((laws_toPattern.f k a1_0 a1_1 a1_2 l1_3).bind fun bt640 => ((spec_SamePattern.f k bt634.1 bt634.2.1 bt634.2.2.1 bt634.2.2.2 bt640.1 bt640.2.1 bt640.2.2.1 bt640.2.2.2).bind fun t646 => ((laws_toPattern.f k a0_0 a0_1 a0_2 l0_3).bind fun bt647 => ((laws_toPattern.f k a1_0 a1_1 a1_2 l1_3).bind fun bt654 => ((impl_SamePattern.f k bt647.1 bt647.2.1 bt647.2.2.1 bt647.2.2.2 bt654.1 bt654.2.1 bt654.2.2.1 bt654.2.2.2).bind fun t661 => (if (t661 != t646) = true then (some false) else ((laws_toPattern.f k a0_0 a0_1 a0_2 l0_3).bind fun bt662 => ((laws_eqPattern.f k bt647.1 bt647.2.1 bt647.2.2.1 bt647.2.2.2 bt662.1 bt662.2.1 bt662.2.2.1 bt662.2.2.2).bind fun t668 => (if t668 = true then ((laws_toPattern.f k a1_0 a1_1 a1_2 l1_3).bind fun bt669 => ((laws_eqPattern.f k bt654.1 bt654.2.1 bt654.2.2.1 bt654.2.2.2 bt669.1 bt669.2.1 bt669.2.2.1 bt669.2.2.2).bind fun t675 => (if t675 = true then (some true) else (some false)))) else (some false)))))))))))))) = some true := H
  have A3 := Aside0.mk A30
  clear A30
  by_cases c4 : t632 < 0
  · rw [if_pos c4] at H
    have c4b0 : decide (t632 < 0) = true := decide_eq_true c4
    clear c4
    clear H
    go_enter Try.func14, Try.ntmps14
    go_wp2_with (first | ((with_reducible refine gate_dst (N := 2) rfl ?_); refine box_event ?hg (N := 2) ?hd (cs := #[.int .i8 a0_0, .int .i8 a0_1, .int .i8 a0_2, .slice A0_3 l0_3.length c0_3]) (t := 64) ?hr ?_; (case hd => rfl); (case hg => rfl); (case hr => first | (go_simp; done) | (go_simp; rfl)); intro gb630 hg w5 hbox hb; have n0_ := Aside0.mk (below_step (by repeat (first | (with_reducible first | exact HB.out | apply below_alloc | apply pw_below_drewN | apply below_drew1) | exact HB.out)) hb); have n1_ := Aside0.mk (hbox); have n2_ := Aside0.mk ((by rw [hg]; exact (below_size (by repeat (first | (with_reducible first | exact HB.out | apply below_alloc | apply pw_below_drewN | apply below_drew1) | exact HB.out))) : w.heap.size ≤ gb630)); have n3_ := Aside0.mk ((by rw [hg]; exact (below_size (by repeat (first | (with_reducible first | exact HB.out | apply below_alloc | apply pw_below_drewN | apply below_drew1) | exact HB.out))) : w.heap.size ≤ gb630)); clear HB; have HB := n0_; have BK630 := n1_; have GW630 := n2_; have GE630 := n3_; clear n0_ n1_ n2_ n3_; clear hb hbox hg) | ((with_reducible refine gate_dst (N := 3) rfl ?_); refine box_event ?hg (N := 3) ?hd (cs := #[.int .i8 a1_0, .int .i8 a1_1, .int .i8 a1_2, .slice A1_3 l1_3.length c1_3]) (t := 64) ?hr ?_; (case hd => rfl); (case hg => rfl); (case hr => first | (go_simp; done) | (go_simp; rfl)); intro gb631 hg w6 hbox hb; have n0_ := Aside0.mk (blk_below (g := gb630) (o := .cells #[.int .i8 a0_0, .int .i8 a0_1, .int .i8 a0_2, .slice A0_3 l0_3.length c0_3] 64 (0, 0)) (by (with_reducible repeat (first | refine blk_drewN ?_ _ | refine blk_drew ?_ | refine blk_alloc ?_ _)); exact BK630.out) hb); have n1_ := Aside0.mk (below_step (by repeat (first | (with_reducible first | exact HB.out | apply below_alloc | apply pw_below_drewN | apply below_drew1 | refine below_set ?_ GE630.out) | exact HB.out)) hb); have n2_ := Aside0.mk (hbox); have n3_ := Aside0.mk ((by rw [hg]; exact (below_size (by repeat (first | (with_reducible first | exact HB.out | apply below_alloc | apply pw_below_drewN | apply below_drew1 | refine below_set ?_ GE630.out) | exact HB.out))) : w.heap.size ≤ gb631)); have n4_ := Aside0.mk ((by rw [hg]; exact (below_size (by repeat (first | (with_reducible first | exact HB.out | apply below_alloc | apply pw_below_drewN | apply below_drew1 | refine below_set ?_ GE630.out) | exact HB.out))) : w.heap.size ≤ gb631)); have n5_ := Aside0.mk ((by rw [hg]; exact Nat.ne_of_lt (blk_lt (g := gb630) (o := .cells #[.int .i8 a0_0, .int .i8 a0_1, .int .i8 a0_2, .slice A0_3 l0_3.length c0_3] 64 (0, 0)) (by (with_reducible repeat (first | refine blk_drewN ?_ _ | refine blk_drew ?_ | refine blk_alloc ?_ _)); exact BK630.out)) : gb630 ≠ gb631)); have n6_ := Aside0.mk ((by rw [hg]; exact Nat.ne_of_gt (blk_lt (g := gb630) (o := .cells #[.int .i8 a0_0, .int .i8 a0_1, .int .i8 a0_2, .slice A0_3 l0_3.length c0_3] 64 (0, 0)) (by (with_reducible repeat (first | refine blk_drewN ?_ _ | refine blk_drew ?_ | refine blk_alloc ?_ _)); exact BK630.out)) : gb631 ≠ gb630)); clear BK630; clear HB; have BK630 := n0_; have HB := n1_; have BK631 := n2_; have GW631 := n3_; have GE631 := n4_; have NB630_631 := n5_; have NB631_630 := n6_; clear n0_ n1_ n2_ n3_ n4_ n5_ n6_; clear hb hbox hg; have hnb7 := NB630_631.out; have hnc7 := NB631_630.out; have hcz8_0 : w6.cell? ⟨gb630, 0, none⟩ = some (.int .i8 a0_0) := (blk_cell BK630.out 0).trans rfl; have hcz8_1 : w6.cell? ⟨gb630, 1, none⟩ = some (.int .i8 a0_1) := (blk_cell BK630.out 1).trans rfl; have hcz8_2 : w6.cell? ⟨gb630, 2, none⟩ = some (.int .i8 a0_2) := (blk_cell BK630.out 2).trans rfl; have hcz8_3 : w6.cell? ⟨gb630, 3, none⟩ = some (.slice A0_3 l0_3.length c0_3) := (blk_cell BK630.out 3).trans rfl; have hfz8_0 := blk_frozen BK630.out 0; have hfz8_1 := blk_frozen BK630.out 1; have hfz8_2 := blk_frozen BK630.out 2; have hfz8_3 := blk_frozen BK630.out 3) | ((with_reducible refine gate_callee (f := 48) rfl ?_); refine goesL_ (some 12) rfl rfl Try.func48 (by kernel_rfl) rfl #[.agg #[.int .i8 a0_0, .int .i8 a0_1, .int .i8 a0_2, .slice A0_3 l0_3.length c0_3], .int .i64 1048576] rfl (by (try simp only [List.map_toArray, List.map_cons, List.map_nil]); first | done | rfl | (simp only [List.length_drop, List.length_take]; rfl)) ?_; (with_reducible refine (laws_szPattern.calls a0_0 a0_1 a0_2 _ _ l0_3 1048576 t632 _ ?side1 ?side2 A3.out).mono ?_); (case side1 => repeat (first | exact (Kd.C_below HR0_3.out HB.out) | (with_reducible refine Kd.C_alloc ?_ _) | (with_reducible refine Kd.C_drewN ?_ _) | (with_reducible refine Kd.C_drew ?_))); (case side2 => exact HC0_3.out); rintro e w9 ⟨rfl, hb⟩; refine ⟨_, rfl, ?_⟩; have n0_ := Aside0.mk (blk_below (g := gb630) (o := .cells #[.int .i8 a0_0, .int .i8 a0_1, .int .i8 a0_2, .slice A0_3 l0_3.length c0_3] 64 (0, 0)) (by (with_reducible repeat (first | refine blk_drewN ?_ _ | refine blk_drew ?_ | refine blk_alloc ?_ _)); exact BK630.out) hb); have n1_ := Aside0.mk (blk_below (g := gb631) (o := .cells #[.int .i8 a1_0, .int .i8 a1_1, .int .i8 a1_2, .slice A1_3 l1_3.length c1_3] 64 (0, 0)) (by (with_reducible repeat (first | refine blk_drewN ?_ _ | refine blk_drew ?_ | refine blk_alloc ?_ _)); exact BK631.out) hb); have n2_ := Aside0.mk (below_step (by repeat (first | (with_reducible first | exact HB.out | apply below_alloc | apply pw_below_drewN | apply below_drew1 | refine below_set ?_ GE630.out | refine below_set ?_ GE631.out) | exact HB.out)) hb); clear BK630; clear BK631; clear HB; have BK630 := n0_; have BK631 := n1_; have HB := n2_; clear n0_ n1_ n2_; (try clear hb); (try clear hb2); (try clear hk); (try clear hi)))
    go_ret
    exact ⟨by first | rfl | (simp [errW_none, errW_some] <;> rfl) | (simp [*, errW_none, errW_some] <;> rfl), by repeat (first | (with_reducible first | exact HB.out | apply below_alloc | apply pw_below_drewN | apply below_drew1 | refine below_set ?_ GE630.out | refine below_set ?_ GE631.out) | exact HB.out)⟩
  · rw [if_neg c4] at H
    have c4b0 : decide (t632 < 0) = false := decide_eq_false c4
    clear c4
    replace H := Option.bind_eq_some_iff.mp H
    obtain ⟨t633, A100, H⟩ := H
    replace H : (if t633 < 0 then (some true) else ((laws_toPattern.f k a0_0 a0_1 a0_2 l0_3).bind fun bt634 => ((laws_toPattern.f k a1_0 a1_1 a1_2 l1_3).bind fun bt640 => ((spec_SamePattern.f k bt634.1 bt634.2.1 bt634.2.2.1 bt634.2.2.2 bt640.1 bt640.2.1 bt640.2.2.1 bt640.2.2.2).bind fun t646 => ((laws_toPattern.f k a0_0 a0_1 a0_2 l0_3).bind fun bt647 => ((laws_toPattern.f k a1_0 a1_1 a1_2 l1_3).bind fun bt654 => ((impl_SamePattern.f k bt647.1 bt647.2.1 bt647.2.2.1 bt647.2.2.2 bt654.1 bt654.2.1 bt654.2.2.1 bt654.2.2.2).bind fun t661 => (if (t661 != t646) = true then (some false) else ((laws_toPattern.f k a0_0 a0_1 a0_2 l0_3).bind fun bt662 => ((laws_eqPattern.f k bt647.1 bt647.2.1 bt647.2.2.1 bt647.2.2.2 bt662.1 bt662.2.1 bt662.2.2.1 bt662.2.2.2).bind fun t668 => (if t668 = true then ((laws_toPattern.f k a1_0 a1_1 a1_2 l1_3).bind fun bt669 => ((laws_eqPattern.f k bt654.1 bt654.2.1 bt654.2.2.1 bt654.2.2.2 bt669.1 bt669.2.1 bt669.2.2.1 bt669.2.2.2).bind fun t675 => (if t675 = true then (some true) else (some false)))) else (some false)))))))))))) = some true := H
    have A10 := Aside0.mk A100
    clear A100
    by_cases c11 : t633 < 0
    · rw [if_pos c11] at H
      have c11b0 : decide (t633 < 0) = true := decide_eq_true c11
      clear c11
      clear H
      go_enter Try.func14, Try.ntmps14
      go_wp2_with (first | ((with_reducible refine gate_dst (N := 2) rfl ?_); refine box_event ?hg (N := 2) ?hd (cs := #[.int .i8 a0_0, .int .i8 a0_1, .int .i8 a0_2, .slice A0_3 l0_3.length c0_3]) (t := 64) ?hr ?_; (case hd => rfl); (case hg => rfl); (case hr => first | (go_simp; done) | (go_simp; rfl)); intro gb630 hg w12 hbox hb; have n0_ := Aside0.mk (below_step (by repeat (first | (with_reducible first | exact HB.out | apply below_alloc | apply pw_below_drewN | apply below_drew1) | exact HB.out)) hb); have n1_ := Aside0.mk (hbox); have n2_ := Aside0.mk ((by rw [hg]; exact (below_size (by repeat (first | (with_reducible first | exact HB.out | apply below_alloc | apply pw_below_drewN | apply below_drew1) | exact HB.out))) : w.heap.size ≤ gb630)); have n3_ := Aside0.mk ((by rw [hg]; exact (below_size (by repeat (first | (with_reducible first | exact HB.out | apply below_alloc | apply pw_below_drewN | apply below_drew1) | exact HB.out))) : w.heap.size ≤ gb630)); clear HB; have HB := n0_; have BK630 := n1_; have GW630 := n2_; have GE630 := n3_; clear n0_ n1_ n2_ n3_; clear hb hbox hg) | ((with_reducible refine gate_dst (N := 3) rfl ?_); refine box_event ?hg (N := 3) ?hd (cs := #[.int .i8 a1_0, .int .i8 a1_1, .int .i8 a1_2, .slice A1_3 l1_3.length c1_3]) (t := 64) ?hr ?_; (case hd => rfl); (case hg => rfl); (case hr => first | (go_simp; done) | (go_simp; rfl)); intro gb631 hg w13 hbox hb; have n0_ := Aside0.mk (blk_below (g := gb630) (o := .cells #[.int .i8 a0_0, .int .i8 a0_1, .int .i8 a0_2, .slice A0_3 l0_3.length c0_3] 64 (0, 0)) (by (with_reducible repeat (first | refine blk_drewN ?_ _ | refine blk_drew ?_ | refine blk_alloc ?_ _)); exact BK630.out) hb); have n1_ := Aside0.mk (below_step (by repeat (first | (with_reducible first | exact HB.out | apply below_alloc | apply pw_below_drewN | apply below_drew1 | refine below_set ?_ GE630.out) | exact HB.out)) hb); have n2_ := Aside0.mk (hbox); have n3_ := Aside0.mk ((by rw [hg]; exact (below_size (by repeat (first | (with_reducible first | exact HB.out | apply below_alloc | apply pw_below_drewN | apply below_drew1 | refine below_set ?_ GE630.out) | exact HB.out))) : w.heap.size ≤ gb631)); have n4_ := Aside0.mk ((by rw [hg]; exact (below_size (by repeat (first | (with_reducible first | exact HB.out | apply below_alloc | apply pw_below_drewN | apply below_drew1 | refine below_set ?_ GE630.out) | exact HB.out))) : w.heap.size ≤ gb631)); have n5_ := Aside0.mk ((by rw [hg]; exact Nat.ne_of_lt (blk_lt (g := gb630) (o := .cells #[.int .i8 a0_0, .int .i8 a0_1, .int .i8 a0_2, .slice A0_3 l0_3.length c0_3] 64 (0, 0)) (by (with_reducible repeat (first | refine blk_drewN ?_ _ | refine blk_drew ?_ | refine blk_alloc ?_ _)); exact BK630.out)) : gb630 ≠ gb631)); have n6_ := Aside0.mk ((by rw [hg]; exact Nat.ne_of_gt (blk_lt (g := gb630) (o := .cells #[.int .i8 a0_0, .int .i8 a0_1, .int .i8 a0_2, .slice A0_3 l0_3.length c0_3] 64 (0, 0)) (by (with_reducible repeat (first | refine blk_drewN ?_ _ | refine blk_drew ?_ | refine blk_alloc ?_ _)); exact BK630.out)) : gb631 ≠ gb630)); clear BK630; clear HB; have BK630 := n0_; have HB := n1_; have BK631 := n2_; have GW631 := n3_; have GE631 := n4_; have NB630_631 := n5_; have NB631_630 := n6_; clear n0_ n1_ n2_ n3_ n4_ n5_ n6_; clear hb hbox hg; have hnb14 := NB630_631.out; have hnc14 := NB631_630.out; have hcz15_0 : w13.cell? ⟨gb630, 0, none⟩ = some (.int .i8 a0_0) := (blk_cell BK630.out 0).trans rfl; have hcz15_1 : w13.cell? ⟨gb630, 1, none⟩ = some (.int .i8 a0_1) := (blk_cell BK630.out 1).trans rfl; have hcz15_2 : w13.cell? ⟨gb630, 2, none⟩ = some (.int .i8 a0_2) := (blk_cell BK630.out 2).trans rfl; have hcz15_3 : w13.cell? ⟨gb630, 3, none⟩ = some (.slice A0_3 l0_3.length c0_3) := (blk_cell BK630.out 3).trans rfl; have hfz15_0 := blk_frozen BK630.out 0; have hfz15_1 := blk_frozen BK630.out 1; have hfz15_2 := blk_frozen BK630.out 2; have hfz15_3 := blk_frozen BK630.out 3) | ((with_reducible refine gate_callee (f := 48) rfl ?_); refine goesL_ (some 12) rfl rfl Try.func48 (by kernel_rfl) rfl #[.agg #[.int .i8 a0_0, .int .i8 a0_1, .int .i8 a0_2, .slice A0_3 l0_3.length c0_3], .int .i64 1048576] rfl (by (try simp only [List.map_toArray, List.map_cons, List.map_nil]); first | done | rfl | (simp only [List.length_drop, List.length_take]; rfl)) ?_; (with_reducible refine (laws_szPattern.calls a0_0 a0_1 a0_2 _ _ l0_3 1048576 t632 _ ?side1 ?side2 A3.out).mono ?_); (case side1 => repeat (first | exact (Kd.C_below HR0_3.out HB.out) | (with_reducible refine Kd.C_alloc ?_ _) | (with_reducible refine Kd.C_drewN ?_ _) | (with_reducible refine Kd.C_drew ?_))); (case side2 => exact HC0_3.out); rintro e w16 ⟨rfl, hb⟩; refine ⟨_, rfl, ?_⟩; have n0_ := Aside0.mk (blk_below (g := gb630) (o := .cells #[.int .i8 a0_0, .int .i8 a0_1, .int .i8 a0_2, .slice A0_3 l0_3.length c0_3] 64 (0, 0)) (by (with_reducible repeat (first | refine blk_drewN ?_ _ | refine blk_drew ?_ | refine blk_alloc ?_ _)); exact BK630.out) hb); have n1_ := Aside0.mk (blk_below (g := gb631) (o := .cells #[.int .i8 a1_0, .int .i8 a1_1, .int .i8 a1_2, .slice A1_3 l1_3.length c1_3] 64 (0, 0)) (by (with_reducible repeat (first | refine blk_drewN ?_ _ | refine blk_drew ?_ | refine blk_alloc ?_ _)); exact BK631.out) hb); have n2_ := Aside0.mk (below_step (by repeat (first | (with_reducible first | exact HB.out | apply below_alloc | apply pw_below_drewN | apply below_drew1 | refine below_set ?_ GE630.out | refine below_set ?_ GE631.out) | exact HB.out)) hb); clear BK630; clear BK631; clear HB; have BK630 := n0_; have BK631 := n1_; have HB := n2_; clear n0_ n1_ n2_; (try clear hb); (try clear hb2); (try clear hk); (try clear hi); have hcz17_0 : w16.cell? ⟨gb631, 0, none⟩ = some (.int .i8 a1_0) := (blk_cell BK631.out 0).trans rfl; have hcz17_1 : w16.cell? ⟨gb631, 1, none⟩ = some (.int .i8 a1_1) := (blk_cell BK631.out 1).trans rfl; have hcz17_2 : w16.cell? ⟨gb631, 2, none⟩ = some (.int .i8 a1_2) := (blk_cell BK631.out 2).trans rfl; have hcz17_3 : w16.cell? ⟨gb631, 3, none⟩ = some (.slice A1_3 l1_3.length c1_3) := (blk_cell BK631.out 3).trans rfl; have hfz17_0 := blk_frozen BK631.out 0; have hfz17_1 := blk_frozen BK631.out 1; have hfz17_2 := blk_frozen BK631.out 2; have hfz17_3 := blk_frozen BK631.out 3) | ((with_reducible refine gate_callee (f := 48) rfl ?_); refine goesL_ (some 17) rfl rfl Try.func48 (by kernel_rfl) rfl #[.agg #[.int .i8 a1_0, .int .i8 a1_1, .int .i8 a1_2, .slice A1_3 l1_3.length c1_3], .int .i64 t632] rfl (by (try simp only [List.map_toArray, List.map_cons, List.map_nil]); first | done | rfl | (simp only [List.length_drop, List.length_take]; rfl)) ?_; (with_reducible refine (laws_szPattern.calls a1_0 a1_1 a1_2 _ _ l1_3 t632 t633 _ ?side1 ?side2 A10.out).mono ?_); (case side1 => repeat (first | exact (Kd.C_below HR1_3.out HB.out) | (with_reducible refine Kd.C_alloc ?_ _) | (with_reducible refine Kd.C_drewN ?_ _) | (with_reducible refine Kd.C_drew ?_))); (case side2 => exact HC1_3.out); rintro e w18 ⟨rfl, hb⟩; refine ⟨_, rfl, ?_⟩; have n0_ := Aside0.mk (blk_below (g := gb630) (o := .cells #[.int .i8 a0_0, .int .i8 a0_1, .int .i8 a0_2, .slice A0_3 l0_3.length c0_3] 64 (0, 0)) (by (with_reducible repeat (first | refine blk_drewN ?_ _ | refine blk_drew ?_ | refine blk_alloc ?_ _)); exact BK630.out) hb); have n1_ := Aside0.mk (blk_below (g := gb631) (o := .cells #[.int .i8 a1_0, .int .i8 a1_1, .int .i8 a1_2, .slice A1_3 l1_3.length c1_3] 64 (0, 0)) (by (with_reducible repeat (first | refine blk_drewN ?_ _ | refine blk_drew ?_ | refine blk_alloc ?_ _)); exact BK631.out) hb); have n2_ := Aside0.mk (below_step (by repeat (first | (with_reducible first | exact HB.out | apply below_alloc | apply pw_below_drewN | apply below_drew1 | refine below_set ?_ GE630.out | refine below_set ?_ GE631.out) | exact HB.out)) hb); clear BK630; clear BK631; clear HB; have BK630 := n0_; have BK631 := n1_; have HB := n2_; clear n0_ n1_ n2_; (try clear hb); (try clear hb2); (try clear hk); (try clear hi)))
      go_ret
      exact ⟨by first | rfl | (simp [errW_none, errW_some] <;> rfl) | (simp [*, errW_none, errW_some] <;> rfl), by repeat (first | (with_reducible first | exact HB.out | apply below_alloc | apply pw_below_drewN | apply below_drew1 | refine below_set ?_ GE630.out | refine below_set ?_ GE631.out) | exact HB.out)⟩
    · rw [if_neg c11] at H
      have c11b0 : decide (t633 < 0) = false := decide_eq_false c11
      clear c11
      replace H := Option.bind_eq_some_iff.mp H
      obtain ⟨⟨t634, t635, t636, t637⟩, A190, H⟩ := H
      replace H : ((laws_toPattern.f k a1_0 a1_1 a1_2 l1_3).bind fun bt640 => ((spec_SamePattern.f k t634 t635 t636 t637 bt640.1 bt640.2.1 bt640.2.2.1 bt640.2.2.2).bind fun t646 => ((laws_toPattern.f k a0_0 a0_1 a0_2 l0_3).bind fun bt647 => ((laws_toPattern.f k a1_0 a1_1 a1_2 l1_3).bind fun bt654 => ((impl_SamePattern.f k bt647.1 bt647.2.1 bt647.2.2.1 bt647.2.2.2 bt654.1 bt654.2.1 bt654.2.2.1 bt654.2.2.2).bind fun t661 => (if (t661 != t646) = true then (some false) else ((laws_toPattern.f k a0_0 a0_1 a0_2 l0_3).bind fun bt662 => ((laws_eqPattern.f k bt647.1 bt647.2.1 bt647.2.2.1 bt647.2.2.2 bt662.1 bt662.2.1 bt662.2.2.1 bt662.2.2.2).bind fun t668 => (if t668 = true then ((laws_toPattern.f k a1_0 a1_1 a1_2 l1_3).bind fun bt669 => ((laws_eqPattern.f k bt654.1 bt654.2.1 bt654.2.2.1 bt654.2.2.2 bt669.1 bt669.2.1 bt669.2.2.1 bt669.2.2.2).bind fun t675 => (if t675 = true then (some true) else (some false)))) else (some false)))))))))) = some true := H
      have A19 := Aside0.mk A190
      clear A190
      replace H := Option.bind_eq_some_iff.mp H
      obtain ⟨⟨t640, t641, t642, t643⟩, A200, H⟩ := H
      replace H : ((spec_SamePattern.f k t634 t635 t636 t637 t640 t641 t642 t643).bind fun t646 => ((laws_toPattern.f k a0_0 a0_1 a0_2 l0_3).bind fun bt647 => ((laws_toPattern.f k a1_0 a1_1 a1_2 l1_3).bind fun bt654 => ((impl_SamePattern.f k bt647.1 bt647.2.1 bt647.2.2.1 bt647.2.2.2 bt654.1 bt654.2.1 bt654.2.2.1 bt654.2.2.2).bind fun t661 => (if (t661 != t646) = true then (some false) else ((laws_toPattern.f k a0_0 a0_1 a0_2 l0_3).bind fun bt662 => ((laws_eqPattern.f k bt647.1 bt647.2.1 bt647.2.2.1 bt647.2.2.2 bt662.1 bt662.2.1 bt662.2.2.1 bt662.2.2.2).bind fun t668 => (if t668 = true then ((laws_toPattern.f k a1_0 a1_1 a1_2 l1_3).bind fun bt669 => ((laws_eqPattern.f k bt654.1 bt654.2.1 bt654.2.2.1 bt654.2.2.2 bt669.1 bt669.2.1 bt669.2.2.1 bt669.2.2.2).bind fun t675 => (if t675 = true then (some true) else (some false)))) else (some false))))))))) = some true := H
      have A20 := Aside0.mk A200
      clear A200
      replace H := Option.bind_eq_some_iff.mp H
      obtain ⟨t646, A210, H⟩ := H
      replace H : ((laws_toPattern.f k a0_0 a0_1 a0_2 l0_3).bind fun bt647 => ((laws_toPattern.f k a1_0 a1_1 a1_2 l1_3).bind fun bt654 => ((impl_SamePattern.f k bt647.1 bt647.2.1 bt647.2.2.1 bt647.2.2.2 bt654.1 bt654.2.1 bt654.2.2.1 bt654.2.2.2).bind fun t661 => (if (t661 != t646) = true then (some false) else ((laws_toPattern.f k a0_0 a0_1 a0_2 l0_3).bind fun bt662 => ((laws_eqPattern.f k bt647.1 bt647.2.1 bt647.2.2.1 bt647.2.2.2 bt662.1 bt662.2.1 bt662.2.2.1 bt662.2.2.2).bind fun t668 => (if t668 = true then ((laws_toPattern.f k a1_0 a1_1 a1_2 l1_3).bind fun bt669 => ((laws_eqPattern.f k bt654.1 bt654.2.1 bt654.2.2.1 bt654.2.2.2 bt669.1 bt669.2.1 bt669.2.2.1 bt669.2.2.2).bind fun t675 => (if t675 = true then (some true) else (some false)))) else (some false)))))))) = some true := H
      have A21 := Aside0.mk A210
      clear A210
      replace H := Option.bind_eq_some_iff.mp H
      obtain ⟨⟨t647, t648, t649, t650⟩, A220, H⟩ := H
      replace H : ((laws_toPattern.f k a1_0 a1_1 a1_2 l1_3).bind fun bt654 => ((impl_SamePattern.f k t647 t648 t649 t650 bt654.1 bt654.2.1 bt654.2.2.1 bt654.2.2.2).bind fun t661 => (if (t661 != t646) = true then (some false) else ((laws_toPattern.f k a0_0 a0_1 a0_2 l0_3).bind fun bt662 => ((laws_eqPattern.f k t647 t648 t649 t650 bt662.1 bt662.2.1 bt662.2.2.1 bt662.2.2.2).bind fun t668 => (if t668 = true then ((laws_toPattern.f k a1_0 a1_1 a1_2 l1_3).bind fun bt669 => ((laws_eqPattern.f k bt654.1 bt654.2.1 bt654.2.2.1 bt654.2.2.2 bt669.1 bt669.2.1 bt669.2.2.1 bt669.2.2.2).bind fun t675 => (if t675 = true then (some true) else (some false)))) else (some false))))))) = some true := H
      have A22 := Aside0.mk A220
      clear A220
      replace H := Option.bind_eq_some_iff.mp H
      obtain ⟨⟨t654, t655, t656, t657⟩, A230, H⟩ := H
      replace H : ((impl_SamePattern.f k t647 t648 t649 t650 t654 t655 t656 t657).bind fun t661 => (if (t661 != t646) = true then (some false) else ((laws_toPattern.f k a0_0 a0_1 a0_2 l0_3).bind fun bt662 => ((laws_eqPattern.f k t647 t648 t649 t650 bt662.1 bt662.2.1 bt662.2.2.1 bt662.2.2.2).bind fun t668 => (if t668 = true then ((laws_toPattern.f k a1_0 a1_1 a1_2 l1_3).bind fun bt669 => ((laws_eqPattern.f k t654 t655 t656 t657 bt669.1 bt669.2.1 bt669.2.2.1 bt669.2.2.2).bind fun t675 => (if t675 = true then (some true) else (some false)))) else (some false)))))) = some true := H
      have A23 := Aside0.mk A230
      clear A230
      replace H := Option.bind_eq_some_iff.mp H
      obtain ⟨t661, A240, H⟩ := H
      replace H : (if (t661 != t646) = true then (some false) else ((laws_toPattern.f k a0_0 a0_1 a0_2 l0_3).bind fun bt662 => ((laws_eqPattern.f k t647 t648 t649 t650 bt662.1 bt662.2.1 bt662.2.2.1 bt662.2.2.2).bind fun t668 => (if t668 = true then ((laws_toPattern.f k a1_0 a1_1 a1_2 l1_3).bind fun bt669 => ((laws_eqPattern.f k t654 t655 t656 t657 bt669.1 bt669.2.1 bt669.2.2.1 bt669.2.2.2).bind fun t675 => (if t675 = true then (some true) else (some false)))) else (some false))))) = some true := H
      have A24 := Aside0.mk A240
      clear A240
      by_cases c25 : (t661 != t646) = true
      · rw [if_pos c25] at H
        have c25b0 : (t661 != t646) = true := c25
        (try (have c25b1 : decide (t661 = t646) = false := by simpa using c25))
        (try (have c25b2 : (t661 == t646) = false := by simpa using c25))
        (try (have c25b3 : ¬ (t661 = t646) := by simpa using c25))
        clear c25
        exact absurd (Option.some.inj H) (by decide)
      · rw [if_neg c25] at H
        have c25b0 : (t661 != t646) = false := by simpa using c25
        (try (have c25b1 : decide (t661 = t646) = true := by simpa using c25))
        (try (have c25b2 : (t661 == t646) = true := by simpa using c25))
        clear c25
        replace H := Option.bind_eq_some_iff.mp H
        obtain ⟨⟨t662, t663, t664, t665⟩, A260, H⟩ := H
        replace H : ((laws_eqPattern.f k t647 t648 t649 t650 t662 t663 t664 t665).bind fun t668 => (if t668 = true then ((laws_toPattern.f k a1_0 a1_1 a1_2 l1_3).bind fun bt669 => ((laws_eqPattern.f k t654 t655 t656 t657 bt669.1 bt669.2.1 bt669.2.2.1 bt669.2.2.2).bind fun t675 => (if t675 = true then (some true) else (some false)))) else (some false))) = some true := H
        have A26 := Aside0.mk A260
        clear A260
        replace H := Option.bind_eq_some_iff.mp H
        obtain ⟨t668, A270, H⟩ := H
        replace H : (if t668 = true then ((laws_toPattern.f k a1_0 a1_1 a1_2 l1_3).bind fun bt669 => ((laws_eqPattern.f k t654 t655 t656 t657 bt669.1 bt669.2.1 bt669.2.2.1 bt669.2.2.2).bind fun t675 => (if t675 = true then (some true) else (some false)))) else (some false)) = some true := H
        have A27 := Aside0.mk A270
        clear A270
        by_cases c28 : t668 = true
        · subst c28
          have H1 : ((laws_toPattern.f k a1_0 a1_1 a1_2 l1_3).bind fun bt669 => ((laws_eqPattern.f k t654 t655 t656 t657 bt669.1 bt669.2.1 bt669.2.2.1 bt669.2.2.2).bind fun t675 => (if t675 = true then (some true) else (some false)))) = some true := by rw [if_pos rfl] at H; exact H
          clear H
          have H := H1
          clear H1
          replace H := Option.bind_eq_some_iff.mp H
          obtain ⟨⟨t669, t670, t671, t672⟩, A290, H⟩ := H
          replace H : ((laws_eqPattern.f k t654 t655 t656 t657 t669 t670 t671 t672).bind fun t675 => (if t675 = true then (some true) else (some false))) = some true := H
          have A29 := Aside0.mk A290
          clear A290
          replace H := Option.bind_eq_some_iff.mp H
          obtain ⟨t675, A300, H⟩ := H
          replace H : (if t675 = true then (some true) else (some false)) = some true := H
          have A30 := Aside0.mk A300
          clear A300
          by_cases c31 : t675 = true
          · subst c31
            have H1 := True.intro
            clear H
            have H := H1
            clear H1
            clear H
            go_enter Try.func14, Try.ntmps14
            try go_wp2_with (first | ((with_reducible refine gate_dst (N := 2) rfl ?_); refine box_event ?hg (N := 2) ?hd (cs := #[.int .i8 a0_0, .int .i8 a0_1, .int .i8 a0_2, .slice A0_3 l0_3.length c0_3]) (t := 64) ?hr ?_; (case hd => rfl); (case hg => rfl); (case hr => first | (go_simp; done) | (go_simp; rfl)); intro gb630 hg w32 hbox hb; have n0_ := Aside0.mk (below_step (by repeat (first | (with_reducible first | exact HB.out | apply below_alloc | apply pw_below_drewN | apply below_drew1) | exact HB.out)) hb); have n1_ := Aside0.mk (hbox); have n2_ := Aside0.mk ((by rw [hg]; exact (below_size (by repeat (first | (with_reducible first | exact HB.out | apply below_alloc | apply pw_below_drewN | apply below_drew1) | exact HB.out))) : w.heap.size ≤ gb630)); have n3_ := Aside0.mk ((by rw [hg]; exact (below_size (by repeat (first | (with_reducible first | exact HB.out | apply below_alloc | apply pw_below_drewN | apply below_drew1) | exact HB.out))) : w.heap.size ≤ gb630)); clear HB; have HB := n0_; have BK630 := n1_; have GW630 := n2_; have GE630 := n3_; clear n0_ n1_ n2_ n3_; clear hb hbox hg) | ((with_reducible refine gate_dst (N := 3) rfl ?_); refine box_event ?hg (N := 3) ?hd (cs := #[.int .i8 a1_0, .int .i8 a1_1, .int .i8 a1_2, .slice A1_3 l1_3.length c1_3]) (t := 64) ?hr ?_; (case hd => rfl); (case hg => rfl); (case hr => first | (go_simp; done) | (go_simp; rfl)); intro gb631 hg w33 hbox hb; have n0_ := Aside0.mk (blk_below (g := gb630) (o := .cells #[.int .i8 a0_0, .int .i8 a0_1, .int .i8 a0_2, .slice A0_3 l0_3.length c0_3] 64 (0, 0)) (by (with_reducible repeat (first | refine blk_drewN ?_ _ | refine blk_drew ?_ | refine blk_alloc ?_ _)); exact BK630.out) hb); have n1_ := Aside0.mk (below_step (by repeat (first | (with_reducible first | exact HB.out | apply below_alloc | apply pw_below_drewN | apply below_drew1 | refine below_set ?_ GE630.out) | exact HB.out)) hb); have n2_ := Aside0.mk (hbox); have n3_ := Aside0.mk ((by rw [hg]; exact (below_size (by repeat (first | (with_reducible first | exact HB.out | apply below_alloc | apply pw_below_drewN | apply below_drew1 | refine below_set ?_ GE630.out) | exact HB.out))) : w.heap.size ≤ gb631)); have n4_ := Aside0.mk ((by rw [hg]; exact (below_size (by repeat (first | (with_reducible first | exact HB.out | apply below_alloc | apply pw_below_drewN | apply below_drew1 | refine below_set ?_ GE630.out) | exact HB.out))) : w.heap.size ≤ gb631)); have n5_ := Aside0.mk ((by rw [hg]; exact Nat.ne_of_lt (blk_lt (g := gb630) (o := .cells #[.int .i8 a0_0, .int .i8 a0_1, .int .i8 a0_2, .slice A0_3 l0_3.length c0_3] 64 (0, 0)) (by (with_reducible repeat (first | refine blk_drewN ?_ _ | refine blk_drew ?_ | refine blk_alloc ?_ _)); exact BK630.out)) : gb630 ≠ gb631)); have n6_ := Aside0.mk ((by rw [hg]; exact Nat.ne_of_gt (blk_lt (g := gb630) (o := .cells #[.int .i8 a0_0, .int .i8 a0_1, .int .i8 a0_2, .slice A0_3 l0_3.length c0_3] 64 (0, 0)) (by (with_reducible repeat (first | refine blk_drewN ?_ _ | refine blk_drew ?_ | refine blk_alloc ?_ _)); exact BK630.out)) : gb631 ≠ gb630)); clear BK630; clear HB; have BK630 := n0_; have HB := n1_; have BK631 := n2_; have GW631 := n3_; have GE631 := n4_; have NB630_631 := n5_; have NB631_630 := n6_; clear n0_ n1_ n2_ n3_ n4_ n5_ n6_; clear hb hbox hg; have hnb34 := NB630_631.out; have hnc34 := NB631_630.out; have hcz35_0 : w33.cell? ⟨gb630, 0, none⟩ = some (.int .i8 a0_0) := (blk_cell BK630.out 0).trans rfl; have hcz35_1 : w33.cell? ⟨gb630, 1, none⟩ = some (.int .i8 a0_1) := (blk_cell BK630.out 1).trans rfl; have hcz35_2 : w33.cell? ⟨gb630, 2, none⟩ = some (.int .i8 a0_2) := (blk_cell BK630.out 2).trans rfl; have hcz35_3 : w33.cell? ⟨gb630, 3, none⟩ = some (.slice A0_3 l0_3.length c0_3) := (blk_cell BK630.out 3).trans rfl; have hfz35_0 := blk_frozen BK630.out 0; have hfz35_1 := blk_frozen BK630.out 1; have hfz35_2 := blk_frozen BK630.out 2; have hfz35_3 := blk_frozen BK630.out 3) | ((with_reducible refine gate_callee (f := 48) rfl ?_); refine goesL_ (some 12) rfl rfl Try.func48 (by kernel_rfl) rfl #[.agg #[.int .i8 a0_0, .int .i8 a0_1, .int .i8 a0_2, .slice A0_3 l0_3.length c0_3], .int .i64 1048576] rfl (by (try simp only [List.map_toArray, List.map_cons, List.map_nil]); first | done | rfl | (simp only [List.length_drop, List.length_take]; rfl)) ?_; (with_reducible refine (laws_szPattern.calls a0_0 a0_1 a0_2 _ _ l0_3 1048576 t632 _ ?side1 ?side2 A3.out).mono ?_); (case side1 => repeat (first | exact (Kd.C_below HR0_3.out HB.out) | (with_reducible refine Kd.C_alloc ?_ _) | (with_reducible refine Kd.C_drewN ?_ _) | (with_reducible refine Kd.C_drew ?_))); (case side2 => exact HC0_3.out); rintro e w36 ⟨rfl, hb⟩; refine ⟨_, rfl, ?_⟩; have n0_ := Aside0.mk (blk_below (g := gb630) (o := .cells #[.int .i8 a0_0, .int .i8 a0_1, .int .i8 a0_2, .slice A0_3 l0_3.length c0_3] 64 (0, 0)) (by (with_reducible repeat (first | refine blk_drewN ?_ _ | refine blk_drew ?_ | refine blk_alloc ?_ _)); exact BK630.out) hb); have n1_ := Aside0.mk (blk_below (g := gb631) (o := .cells #[.int .i8 a1_0, .int .i8 a1_1, .int .i8 a1_2, .slice A1_3 l1_3.length c1_3] 64 (0, 0)) (by (with_reducible repeat (first | refine blk_drewN ?_ _ | refine blk_drew ?_ | refine blk_alloc ?_ _)); exact BK631.out) hb); have n2_ := Aside0.mk (below_step (by repeat (first | (with_reducible first | exact HB.out | apply below_alloc | apply pw_below_drewN | apply below_drew1 | refine below_set ?_ GE630.out | refine below_set ?_ GE631.out) | exact HB.out)) hb); clear BK630; clear BK631; clear HB; have BK630 := n0_; have BK631 := n1_; have HB := n2_; clear n0_ n1_ n2_; (try clear hb); (try clear hb2); (try clear hk); (try clear hi); have hcz37_0 : w36.cell? ⟨gb631, 0, none⟩ = some (.int .i8 a1_0) := (blk_cell BK631.out 0).trans rfl; have hcz37_1 : w36.cell? ⟨gb631, 1, none⟩ = some (.int .i8 a1_1) := (blk_cell BK631.out 1).trans rfl; have hcz37_2 : w36.cell? ⟨gb631, 2, none⟩ = some (.int .i8 a1_2) := (blk_cell BK631.out 2).trans rfl; have hcz37_3 : w36.cell? ⟨gb631, 3, none⟩ = some (.slice A1_3 l1_3.length c1_3) := (blk_cell BK631.out 3).trans rfl; have hfz37_0 := blk_frozen BK631.out 0; have hfz37_1 := blk_frozen BK631.out 1; have hfz37_2 := blk_frozen BK631.out 2; have hfz37_3 := blk_frozen BK631.out 3) | ((with_reducible refine gate_callee (f := 48) rfl ?_); refine goesL_ (some 17) rfl rfl Try.func48 (by kernel_rfl) rfl #[.agg #[.int .i8 a1_0, .int .i8 a1_1, .int .i8 a1_2, .slice A1_3 l1_3.length c1_3], .int .i64 t632] rfl (by (try simp only [List.map_toArray, List.map_cons, List.map_nil]); first | done | rfl | (simp only [List.length_drop, List.length_take]; rfl)) ?_; (with_reducible refine (laws_szPattern.calls a1_0 a1_1 a1_2 _ _ l1_3 t632 t633 _ ?side1 ?side2 A10.out).mono ?_); (case side1 => repeat (first | exact (Kd.C_below HR1_3.out HB.out) | (with_reducible refine Kd.C_alloc ?_ _) | (with_reducible refine Kd.C_drewN ?_ _) | (with_reducible refine Kd.C_drew ?_))); (case side2 => exact HC1_3.out); rintro e w38 ⟨rfl, hb⟩; refine ⟨_, rfl, ?_⟩; have n0_ := Aside0.mk (blk_below (g := gb630) (o := .cells #[.int .i8 a0_0, .int .i8 a0_1, .int .i8 a0_2, .slice A0_3 l0_3.length c0_3] 64 (0, 0)) (by (with_reducible repeat (first | refine blk_drewN ?_ _ | refine blk_drew ?_ | refine blk_alloc ?_ _)); exact BK630.out) hb); have n1_ := Aside0.mk (blk_below (g := gb631) (o := .cells #[.int .i8 a1_0, .int .i8 a1_1, .int .i8 a1_2, .slice A1_3 l1_3.length c1_3] 64 (0, 0)) (by (with_reducible repeat (first | refine blk_drewN ?_ _ | refine blk_drew ?_ | refine blk_alloc ?_ _)); exact BK631.out) hb); have n2_ := Aside0.mk (below_step (by repeat (first | (with_reducible first | exact HB.out | apply below_alloc | apply pw_below_drewN | apply below_drew1 | refine below_set ?_ GE630.out | refine below_set ?_ GE631.out) | exact HB.out)) hb); clear BK630; clear BK631; clear HB; have BK630 := n0_; have BK631 := n1_; have HB := n2_; clear n0_ n1_ n2_; (try clear hb); (try clear hb2); (try clear hk); (try clear hi)))
            have n0_ := Aside0.mk (blk_drew BK630.out)
            have n1_ := Aside0.mk (blk_drew BK631.out)
            have n2_ := Aside0.mk (below_drew1 HB.out)
            clear BK630
            clear BK631
            clear HB
            have BK630 := n0_
            have BK631 := n1_
            have HB := n2_
            clear n0_ n1_ n2_
            refine start_ (n := 6) (S := fun w' => w'.cell? ⟨gb630, 0, none⟩ = some (.int .i8 a0_0) ∧ w'.cell? ⟨gb630, 1, none⟩ = some (.int .i8 a0_1) ∧ w'.cell? ⟨gb630, 2, none⟩ = some (.int .i8 a0_2) ∧ w'.cell? ⟨gb630, 3, none⟩ = some (.slice A0_3 l0_3.length c0_3) ∧ w'.cell? ⟨gb631, 0, none⟩ = some (.int .i8 a1_0) ∧ w'.cell? ⟨gb631, 1, none⟩ = some (.int .i8 a1_1) ∧ w'.cell? ⟨gb631, 2, none⟩ = some (.int .i8 a1_2) ∧ w'.cell? ⟨gb631, 3, none⟩ = some (.slice A1_3 l1_3.length c1_3)) (ds := []) #[false, false, false, false, false, false] (by kernel_rfl) rfl rfl ⟨(blk_cell BK630.out 0).trans rfl, (blk_cell BK630.out 1).trans rfl, (blk_cell BK630.out 2).trans rfl, (blk_cell BK630.out 3).trans rfl, (blk_cell BK631.out 0).trans rfl, (blk_cell BK631.out 1).trans rfl, (blk_cell BK631.out 2).trans rfl, (blk_cell BK631.out 3).trans rfl⟩ (fun hHeld => ?_)
            generalize w38.drew = w39 at BK630 BK631 HB hHeld ⊢
            refine take_ (i := 0) (N := some 20) (v := ?_) (a' := ?_) #[true, false, false, false, false, false] rfl rfl (by kernel_rfl) (fun _ _ _ h => h) (Or.inl ⟨by rfl, ?_⟩) hHeld ?_ ?_
            rotate_left
            · rintro w' ⟨s0, s1, s2, s3, s4, s5, s6, s7⟩
              go_simp
              with_reducible rfl
            rotate_left
            · simp only [Act.put, List.setIfInBounds_toArray, List.set_cons_zero, List.set_cons_succ, i64_w, i32_w]
              rfl
            refine take_ (i := 2) (N := some 22) (v := ?_) (a' := ?_) #[true, false, true, false, false, false] rfl rfl (by kernel_rfl) (fun _ _ _ h => h) (Or.inl ⟨by rfl, ?_⟩) hHeld ?_ ?_
            rotate_left
            · rintro w' ⟨s0, s1, s2, s3, s4, s5, s6, s7⟩
              go_simp
              with_reducible rfl
            rotate_left
            · simp only [Act.put, List.setIfInBounds_toArray, List.set_cons_zero, List.set_cons_succ, i64_w, i32_w]
              rfl
            refine one_ (i := 1) (N := some 21) #[true, true, true, false, false, false] rfl rfl (by kernel_rfl) (by decide) (fun K hK => ?_)
            refine goes_ Try.func50 (by kernel_rfl) rfl #[.agg #[.int .i8 a0_0, .int .i8 a0_1, .int .i8 a0_2, .slice A0_3 l0_3.length c0_3]] (by rfl) rfl rfl (by (try simp only [List.map_toArray, List.map_cons, List.map_nil]); first | done | rfl | (simp only [List.length_drop, List.length_take]; rfl)) ?_
            with_reducible refine (laws_toPattern.calls k a0_0 a0_1 a0_2 _ _ l0_3 t634 t635 t636 t637 _ ?side1 ?side2 A19.out).mono ?_
            (case side1 => repeat (first | exact (Kd.C_below HR0_3.out HB.out) | (with_reducible refine Kd.C_alloc ?_ _) | (with_reducible refine Kd.C_drewN ?_ _) | (with_reducible refine Kd.C_drew ?_)))
            (case side2 => exact HC0_3.out)
            rintro e w40 ⟨v638, rfl, ho0, hb⟩
            refine ⟨_, rfl, ?_⟩
            have n0_ := Aside0.mk (Kd.R_lower ho0 (below_size (by repeat (first | (with_reducible first | exact HB.out | apply below_alloc | apply pw_below_drewN | apply below_drew1 | refine below_set ?_ GE630.out | refine below_set ?_ GE631.out) | exact HB.out))))
            have n1_ := Aside0.mk (blk_below (g := gb630) (o := .cells #[.int .i8 a0_0, .int .i8 a0_1, .int .i8 a0_2, .slice A0_3 l0_3.length c0_3] 64 (0, 0)) (by (with_reducible repeat (first | refine blk_drewN ?_ _ | refine blk_drew ?_ | refine blk_alloc ?_ _)); exact BK630.out) hb)
            have n2_ := Aside0.mk (blk_below (g := gb631) (o := .cells #[.int .i8 a1_0, .int .i8 a1_1, .int .i8 a1_2, .slice A1_3 l1_3.length c1_3] 64 (0, 0)) (by (with_reducible repeat (first | refine blk_drewN ?_ _ | refine blk_drew ?_ | refine blk_alloc ?_ _)); exact BK631.out) hb)
            have n3_ := Aside0.mk (below_step (by repeat (first | (with_reducible first | exact HB.out | apply below_alloc | apply pw_below_drewN | apply below_drew1 | refine below_set ?_ GE630.out | refine below_set ?_ GE631.out) | exact HB.out)) hb)
            clear BK630
            clear BK631
            clear HB
            have HO639 := n0_
            have BK630 := n1_
            have BK631 := n2_
            have HB := n3_
            clear n0_ n1_ n2_ n3_
            (try clear hb)
            (try clear hb2)
            (try clear hk)
            (try clear hi)
            (try clear ho0)
            refine hK.out _ _ ⟨(blk_cell BK630.out 0).trans rfl, (blk_cell BK630.out 1).trans rfl, (blk_cell BK630.out 2).trans rfl, (blk_cell BK630.out 3).trans rfl, (blk_cell BK631.out 0).trans rfl, (blk_cell BK631.out 1).trans rfl, (blk_cell BK631.out 2).trans rfl, (blk_cell BK631.out 3).trans rfl⟩ (fun hHeld => ?_)
            clear hK K
            refine norm_ (a' := ?_) ?_ ?_
            rotate_left
            · show Act.put _ (some 21) _ = _
              simp only [Act.put, List.setIfInBounds_toArray, List.set_cons_zero, List.set_cons_succ, i64_w, i32_w]
              rfl
            refine one_ (i := 3) (N := some 23) #[true, true, true, true, false, false] rfl rfl (by kernel_rfl) (by decide) (fun K hK => ?_)
            refine goes_ Try.func50 (by kernel_rfl) rfl #[.agg #[.int .i8 a1_0, .int .i8 a1_1, .int .i8 a1_2, .slice A1_3 l1_3.length c1_3]] (by rfl) rfl rfl (by (try simp only [List.map_toArray, List.map_cons, List.map_nil]); first | done | rfl | (simp only [List.length_drop, List.length_take]; rfl)) ?_
            with_reducible refine (laws_toPattern.calls k a1_0 a1_1 a1_2 _ _ l1_3 t640 t641 t642 t643 _ ?side1 ?side2 A20.out).mono ?_
            (case side1 => repeat (first | exact (Kd.C_below HR1_3.out HB.out) | (with_reducible refine Kd.C_alloc ?_ _) | (with_reducible refine Kd.C_drewN ?_ _) | (with_reducible refine Kd.C_drew ?_)))
            (case side2 => exact HC1_3.out)
            rintro e w41 ⟨v644, rfl, ho0, hb⟩
            refine ⟨_, rfl, ?_⟩
            have n0_ := Aside0.mk (Kd.R_elder' (by (with_reducible repeat (first | apply Kd.R_alloc | apply Kd.R_drewN | apply Kd.R_drew)); exact HO639.out) (Kd.R_base ho0) hb)
            have n1_ := Aside0.mk (Kd.R_lower (Kd.R_new' ho0 (Kd.R_lt (by (with_reducible repeat (first | apply Kd.R_alloc | apply Kd.R_drewN | apply Kd.R_drew)); exact HO639.out))) (below_size (by repeat (first | (with_reducible first | exact HB.out | apply below_alloc | apply pw_below_drewN | apply below_drew1 | refine below_set ?_ GE630.out | refine below_set ?_ GE631.out) | exact HB.out))))
            have n2_ := Aside0.mk (blk_below (g := gb630) (o := .cells #[.int .i8 a0_0, .int .i8 a0_1, .int .i8 a0_2, .slice A0_3 l0_3.length c0_3] 64 (0, 0)) (by (with_reducible repeat (first | refine blk_drewN ?_ _ | refine blk_drew ?_ | refine blk_alloc ?_ _)); exact BK630.out) hb)
            have n3_ := Aside0.mk (blk_below (g := gb631) (o := .cells #[.int .i8 a1_0, .int .i8 a1_1, .int .i8 a1_2, .slice A1_3 l1_3.length c1_3] 64 (0, 0)) (by (with_reducible repeat (first | refine blk_drewN ?_ _ | refine blk_drew ?_ | refine blk_alloc ?_ _)); exact BK631.out) hb)
            have n4_ := Aside0.mk (below_step (by repeat (first | (with_reducible first | exact HB.out | apply below_alloc | apply pw_below_drewN | apply below_drew1 | refine below_set ?_ GE630.out | refine below_set ?_ GE631.out) | exact HB.out)) hb)
            clear HO639
            clear BK630
            clear BK631
            clear HB
            have HO639 := n0_
            have HO645 := n1_
            have BK630 := n2_
            have BK631 := n3_
            have HB := n4_
            clear n0_ n1_ n2_ n3_ n4_
            (try clear hb)
            (try clear hb2)
            (try clear hk)
            (try clear hi)
            (try clear ho0)
            obtain ⟨Ao42, co42, eo42⟩ := Kd.R_slice HO639.out
            (first | subst eo42 | (injection eo42 with f1_ f2_ f3_; have f4_ := f1_.symm; have f5_ := f3_.symm; clear f1_ f2_ f3_; subst f4_; subst f5_))
            obtain ⟨Ao43, co43, eo43⟩ := Kd.R_slice HO645.out
            (first | subst eo43 | (injection eo43 with f1_ f2_ f3_; have f4_ := f1_.symm; have f5_ := f3_.symm; clear f1_ f2_ f3_; subst f4_; subst f5_))
            refine hK.out _ _ ⟨(blk_cell BK630.out 0).trans rfl, (blk_cell BK630.out 1).trans rfl, (blk_cell BK630.out 2).trans rfl, (blk_cell BK630.out 3).trans rfl, (blk_cell BK631.out 0).trans rfl, (blk_cell BK631.out 1).trans rfl, (blk_cell BK631.out 2).trans rfl, (blk_cell BK631.out 3).trans rfl⟩ (fun hHeld => ?_)
            clear hK K
            refine norm_ (a' := ?_) ?_ ?_
            rotate_left
            · show Act.put _ (some 23) _ = _
              simp only [Act.put, List.setIfInBounds_toArray, List.set_cons_zero, List.set_cons_succ, i64_w, i32_w]
              rfl
            refine one_ (i := 4) (N := some 24) #[true, true, true, true, true, false] rfl rfl (by kernel_rfl) (by decide) (fun K hK => ?_)
            refine goes_ Try.func49 (by kernel_rfl) rfl #[.agg #[.int .i8 t634, .int .i8 t635, .int .i8 t636, .slice Ao42 t637.length co42], .agg #[.int .i8 t640, .int .i8 t641, .int .i8 t642, .slice Ao43 t643.length co43]] (by rfl) rfl rfl (by (try simp only [List.map_toArray, List.map_cons, List.map_nil]); first | done | rfl | (simp only [List.length_drop, List.length_take]; rfl)) ?_
            with_reducible refine (spec_SamePattern.calls k t634 t635 t636 _ _ t637 t640 t641 t642 _ _ t643 t646 _ ?side1 ?side2 ?side3 ?side4 A21.out).mono ?_
            (case side1 => repeat (first | exact (Kd.R_reads' HO639.out).2.2 | (with_reducible refine Kd.C_alloc ?_ _) | (with_reducible refine Kd.C_drewN ?_ _) | (with_reducible refine Kd.C_drew ?_)))
            (case side2 => exact (Kd.R_reads' HO639.out).2.1)
            (case side3 => repeat (first | exact (Kd.R_reads' HO645.out).2.2 | (with_reducible refine Kd.C_alloc ?_ _) | (with_reducible refine Kd.C_drewN ?_ _) | (with_reducible refine Kd.C_drew ?_)))
            (case side4 => exact (Kd.R_reads' HO645.out).2.1)
            rintro e w44 ⟨rfl, hb⟩
            refine ⟨_, rfl, ?_⟩
            have n0_ := Aside0.mk (Kd.R_below (by (with_reducible repeat (first | apply Kd.R_alloc | apply Kd.R_drewN | apply Kd.R_drew)); exact HO639.out) hb)
            have n1_ := Aside0.mk (Kd.R_below (by (with_reducible repeat (first | apply Kd.R_alloc | apply Kd.R_drewN | apply Kd.R_drew)); exact HO645.out) hb)
            have n2_ := Aside0.mk (blk_below (g := gb630) (o := .cells #[.int .i8 a0_0, .int .i8 a0_1, .int .i8 a0_2, .slice A0_3 l0_3.length c0_3] 64 (0, 0)) (by (with_reducible repeat (first | refine blk_drewN ?_ _ | refine blk_drew ?_ | refine blk_alloc ?_ _)); exact BK630.out) hb)
            have n3_ := Aside0.mk (blk_below (g := gb631) (o := .cells #[.int .i8 a1_0, .int .i8 a1_1, .int .i8 a1_2, .slice A1_3 l1_3.length c1_3] 64 (0, 0)) (by (with_reducible repeat (first | refine blk_drewN ?_ _ | refine blk_drew ?_ | refine blk_alloc ?_ _)); exact BK631.out) hb)
            have n4_ := Aside0.mk (below_step (by repeat (first | (with_reducible first | exact HB.out | apply below_alloc | apply pw_below_drewN | apply below_drew1 | refine below_set ?_ GE630.out | refine below_set ?_ GE631.out) | exact HB.out)) hb)
            clear HO639
            clear HO645
            clear BK630
            clear BK631
            clear HB
            have HO639 := n0_
            have HO645 := n1_
            have BK630 := n2_
            have BK631 := n3_
            have HB := n4_
            clear n0_ n1_ n2_ n3_ n4_
            (try clear hb)
            (try clear hb2)
            (try clear hk)
            (try clear hi)
            refine hK.out _ _ ⟨(blk_cell BK630.out 0).trans rfl, (blk_cell BK630.out 1).trans rfl, (blk_cell BK630.out 2).trans rfl, (blk_cell BK630.out 3).trans rfl, (blk_cell BK631.out 0).trans rfl, (blk_cell BK631.out 1).trans rfl, (blk_cell BK631.out 2).trans rfl, (blk_cell BK631.out 3).trans rfl⟩ (fun hHeld => ?_)
            clear hK K
            refine norm_ (a' := ?_) ?_ ?_
            rotate_left
            · show Act.put _ (some 24) _ = _
              simp only [Act.put, List.setIfInBounds_toArray, List.set_cons_zero, List.set_cons_succ, i64_w, i32_w]
              rfl
            refine pure_ (i := 5) (N := some 6) (v := ?_) (a' := ?_) #[true, true, true, true, true, true] rfl rfl (by kernel_rfl) (fun _ _ _ h => h) (Or.inl ⟨by rfl, ?_⟩) ?_ ?_
            rotate_left
            · intro w'
              go_simp
              with_reducible rfl
            rotate_left
            · simp only [Act.put, List.setIfInBounds_toArray, List.set_cons_zero, List.set_cons_succ, i64_w, i32_w]
              rfl
            refine done_ (by kernel_rfl) ?_
            have hcz45_0 : w44.cell? ⟨gb630, 0, none⟩ = some (.int .i8 a0_0) := (blk_cell BK630.out 0).trans rfl
            have hcz45_1 : w44.cell? ⟨gb630, 1, none⟩ = some (.int .i8 a0_1) := (blk_cell BK630.out 1).trans rfl
            have hcz45_2 : w44.cell? ⟨gb630, 2, none⟩ = some (.int .i8 a0_2) := (blk_cell BK630.out 2).trans rfl
            have hcz45_3 : w44.cell? ⟨gb630, 3, none⟩ = some (.slice A0_3 l0_3.length c0_3) := (blk_cell BK630.out 3).trans rfl
            have hfz45_0 := blk_frozen BK630.out 0
            have hfz45_1 := blk_frozen BK630.out 1
            have hfz45_2 := blk_frozen BK630.out 2
            have hfz45_3 := blk_frozen BK630.out 3
            try go_wp2_with (first | ((with_reducible refine gate_callee (f := 50) rfl ?_); refine goesL_ (some 26) rfl rfl Try.func50 (by kernel_rfl) rfl #[.agg #[.int .i8 a0_0, .int .i8 a0_1, .int .i8 a0_2, .slice A0_3 l0_3.length c0_3]] rfl (by (try simp only [List.map_toArray, List.map_cons, List.map_nil]); first | done | rfl | (simp only [List.length_drop, List.length_take]; rfl)) ?_; (with_reducible refine (laws_toPattern.calls k a0_0 a0_1 a0_2 _ _ l0_3 t647 t648 t649 t650 _ ?side1 ?side2 A22.out).mono ?_); (case side1 => repeat (first | exact (Kd.C_below HR0_3.out HB.out) | (with_reducible refine Kd.C_alloc ?_ _) | (with_reducible refine Kd.C_drewN ?_ _) | (with_reducible refine Kd.C_drew ?_))); (case side2 => exact HC0_3.out); rintro e w46 ⟨v651, rfl, ho0, hb⟩; refine ⟨_, rfl, ?_⟩; have n0_ := Aside0.mk (Kd.R_elder' (by (with_reducible repeat (first | apply Kd.R_alloc | apply Kd.R_drewN | apply Kd.R_drew)); exact HO639.out) (Kd.R_base ho0) hb); have n1_ := Aside0.mk (Kd.R_elder' (by (with_reducible repeat (first | apply Kd.R_alloc | apply Kd.R_drewN | apply Kd.R_drew)); exact HO645.out) (Kd.R_base ho0) hb); have n2_ := Aside0.mk (Kd.R_lower (Kd.R_new' (Kd.R_new' ho0 (Kd.R_lt (by (with_reducible repeat (first | apply Kd.R_alloc | apply Kd.R_drewN | apply Kd.R_drew)); exact HO639.out))) (Kd.R_lt (by (with_reducible repeat (first | apply Kd.R_alloc | apply Kd.R_drewN | apply Kd.R_drew)); exact HO645.out))) (below_size (by repeat (first | (with_reducible first | exact HB.out | apply below_alloc | apply pw_below_drewN | apply below_drew1 | refine below_set ?_ GE630.out | refine below_set ?_ GE631.out) | exact HB.out)))); have n3_ := Aside0.mk (blk_below (g := gb630) (o := .cells #[.int .i8 a0_0, .int .i8 a0_1, .int .i8 a0_2, .slice A0_3 l0_3.length c0_3] 64 (0, 0)) (by (with_reducible repeat (first | refine blk_drewN ?_ _ | refine blk_drew ?_ | refine blk_alloc ?_ _)); exact BK630.out) hb); have n4_ := Aside0.mk (blk_below (g := gb631) (o := .cells #[.int .i8 a1_0, .int .i8 a1_1, .int .i8 a1_2, .slice A1_3 l1_3.length c1_3] 64 (0, 0)) (by (with_reducible repeat (first | refine blk_drewN ?_ _ | refine blk_drew ?_ | refine blk_alloc ?_ _)); exact BK631.out) hb); have n5_ := Aside0.mk (below_step (by repeat (first | (with_reducible first | exact HB.out | apply below_alloc | apply pw_below_drewN | apply below_drew1 | refine below_set ?_ GE630.out | refine below_set ?_ GE631.out) | exact HB.out)) hb); clear HO639; clear HO645; clear BK630; clear BK631; clear HB; have HO639 := n0_; have HO645 := n1_; have HO652 := n2_; have BK630 := n3_; have BK631 := n4_; have HB := n5_; clear n0_ n1_ n2_ n3_ n4_ n5_; (try clear hb); (try clear hb2); (try clear hk); (try clear hi); (try clear ho0)) | ((with_reducible refine gate_dst (N := 7) rfl ?_); refine box_event ?hg (N := 7) ?hd (cs := #[.int .i8 0, .int .i8 0, .int .i8 0, .slice none 0 0]) (t := 68) ?hr ?_; (case hd => rfl); (case hg => rfl); (case hr => first | (go_simp; done) | (go_simp; rfl)); intro gb653 hg w47 hbox hb; have n0_ := Aside0.mk (Kd.R_below (by (with_reducible repeat (first | apply Kd.R_alloc | apply Kd.R_drewN | apply Kd.R_drew)); exact HO639.out) hb); have n1_ := Aside0.mk (Kd.R_below (by (with_reducible repeat (first | apply Kd.R_alloc | apply Kd.R_drewN | apply Kd.R_drew)); exact HO645.out) hb); have n2_ := Aside0.mk (Kd.R_below (by (with_reducible repeat (first | apply Kd.R_alloc | apply Kd.R_drewN | apply Kd.R_drew)); exact HO652.out) hb); have n3_ := Aside0.mk (blk_below (g := gb630) (o := .cells #[.int .i8 a0_0, .int .i8 a0_1, .int .i8 a0_2, .slice A0_3 l0_3.length c0_3] 64 (0, 0)) (by (with_reducible repeat (first | refine blk_drewN ?_ _ | refine blk_drew ?_ | refine blk_alloc ?_ _)); exact BK630.out) hb); have n4_ := Aside0.mk (blk_below (g := gb631) (o := .cells #[.int .i8 a1_0, .int .i8 a1_1, .int .i8 a1_2, .slice A1_3 l1_3.length c1_3] 64 (0, 0)) (by (with_reducible repeat (first | refine blk_drewN ?_ _ | refine blk_drew ?_ | refine blk_alloc ?_ _)); exact BK631.out) hb); have n5_ := Aside0.mk (below_step (by repeat (first | (with_reducible first | exact HB.out | apply below_alloc | apply pw_below_drewN | apply below_drew1 | refine below_set ?_ GE630.out | refine below_set ?_ GE631.out) | exact HB.out)) hb); have n6_ := Aside0.mk (hbox); have n7_ := Aside0.mk ((by rw [hg]; exact (below_size (by repeat (first | (with_reducible first | exact HB.out | apply below_alloc | apply pw_below_drewN | apply below_drew1 | refine below_set ?_ GE630.out | refine below_set ?_ GE631.out) | exact HB.out))) : w.heap.size ≤ gb653)); have n8_ := Aside0.mk ((by rw [hg]; exact (below_size (by repeat (first | (with_reducible first | exact HB.out | apply below_alloc | apply pw_below_drewN | apply below_drew1 | refine below_set ?_ GE630.out | refine below_set ?_ GE631.out) | exact HB.out))) : w.heap.size ≤ gb653)); have n9_ := Aside0.mk ((by rw [hg]; exact Nat.ne_of_lt (blk_lt (g := gb630) (o := .cells #[.int .i8 a0_0, .int .i8 a0_1, .int .i8 a0_2, .slice A0_3 l0_3.length c0_3] 64 (0, 0)) (by (with_reducible repeat (first | refine blk_drewN ?_ _ | refine blk_drew ?_ | refine blk_alloc ?_ _)); exact BK630.out)) : gb630 ≠ gb653)); have n10_ := Aside0.mk ((by rw [hg]; exact Nat.ne_of_gt (blk_lt (g := gb630) (o := .cells #[.int .i8 a0_0, .int .i8 a0_1, .int .i8 a0_2, .slice A0_3 l0_3.length c0_3] 64 (0, 0)) (by (with_reducible repeat (first | refine blk_drewN ?_ _ | refine blk_drew ?_ | refine blk_alloc ?_ _)); exact BK630.out)) : gb653 ≠ gb630)); have n11_ := Aside0.mk ((by rw [hg]; exact Nat.ne_of_lt (blk_lt (g := gb631) (o := .cells #[.int .i8 a1_0, .int .i8 a1_1, .int .i8 a1_2, .slice A1_3 l1_3.length c1_3] 64 (0, 0)) (by (with_reducible repeat (first | refine blk_drewN ?_ _ | refine blk_drew ?_ | refine blk_alloc ?_ _)); exact BK631.out)) : gb631 ≠ gb653)); have n12_ := Aside0.mk ((by rw [hg]; exact Nat.ne_of_gt (blk_lt (g := gb631) (o := .cells #[.int .i8 a1_0, .int .i8 a1_1, .int .i8 a1_2, .slice A1_3 l1_3.length c1_3] 64 (0, 0)) (by (with_reducible repeat (first | refine blk_drewN ?_ _ | refine blk_drew ?_ | refine blk_alloc ?_ _)); exact BK631.out)) : gb653 ≠ gb631)); clear HO639; clear HO645; clear HO652; clear BK630; clear BK631; clear HB; have HO639 := n0_; have HO645 := n1_; have HO652 := n2_; have BK630 := n3_; have BK631 := n4_; have HB := n5_; have BK653 := n6_; have GW653 := n7_; have GE653 := n8_; have NB630_653 := n9_; have NB653_630 := n10_; have NB631_653 := n11_; have NB653_631 := n12_; clear n0_ n1_ n2_ n3_ n4_ n5_ n6_ n7_ n8_ n9_ n10_ n11_ n12_; clear hb hbox hg; have hnb48 := NB653_630.out; have hnc48 := NB630_653.out; have hnb49 := NB653_631.out; have hnc49 := NB631_653.out; have hcz50_0 : w47.cell? ⟨gb653, 0, none⟩ = some (.int .i8 0) := (blk_cell BK653.out 0).trans rfl; have hcz50_1 : w47.cell? ⟨gb653, 1, none⟩ = some (.int .i8 0) := (blk_cell BK653.out 1).trans rfl; have hcz50_2 : w47.cell? ⟨gb653, 2, none⟩ = some (.int .i8 0) := (blk_cell BK653.out 2).trans rfl; have hcz50_3 : w47.cell? ⟨gb653, 3, none⟩ = some (.slice none 0 0) := (blk_cell BK653.out 3).trans rfl; have hfz50_0 := blk_frozen BK653.out 0; have hfz50_1 := blk_frozen BK653.out 1; have hfz50_2 := blk_frozen BK653.out 2; have hfz50_3 := blk_frozen BK653.out 3; obtain ⟨Ao51, co51, eo51⟩ := Kd.R_slice HO652.out; subst eo51; have hcz52_0 : w47.cell? ⟨gb631, 0, none⟩ = some (.int .i8 a1_0) := (blk_cell BK631.out 0).trans rfl; have hcz52_1 : w47.cell? ⟨gb631, 1, none⟩ = some (.int .i8 a1_1) := (blk_cell BK631.out 1).trans rfl; have hcz52_2 : w47.cell? ⟨gb631, 2, none⟩ = some (.int .i8 a1_2) := (blk_cell BK631.out 2).trans rfl; have hcz52_3 : w47.cell? ⟨gb631, 3, none⟩ = some (.slice A1_3 l1_3.length c1_3) := (blk_cell BK631.out 3).trans rfl; have hfz52_0 := blk_frozen BK631.out 0; have hfz52_1 := blk_frozen BK631.out 1; have hfz52_2 := blk_frozen BK631.out 2; have hfz52_3 := blk_frozen BK631.out 3) | ((with_reducible refine gate_callee (f := 50) rfl ?_); refine goesL_ (some 28) rfl rfl Try.func50 (by kernel_rfl) rfl #[.agg #[.int .i8 a1_0, .int .i8 a1_1, .int .i8 a1_2, .slice A1_3 l1_3.length c1_3]] rfl (by (try simp only [List.map_toArray, List.map_cons, List.map_nil]); first | done | rfl | (simp only [List.length_drop, List.length_take]; rfl)) ?_; (with_reducible refine (laws_toPattern.calls k a1_0 a1_1 a1_2 _ _ l1_3 t654 t655 t656 t657 _ ?side1 ?side2 A23.out).mono ?_); (case side1 => exact Kd.C_below HR1_3.out (by repeat (first | (with_reducible first | exact HB.out | apply below_alloc | apply pw_below_drewN | apply below_drew1 | refine below_set ?_ GE630.out | refine below_set ?_ GE631.out | refine below_set ?_ GE653.out) | exact HB.out))); (case side2 => exact HC1_3.out); rintro e w53 ⟨v658, rfl, ho0, hb⟩; refine ⟨_, rfl, ?_⟩; have n0_ := Aside0.mk (Kd.R_elder' (by (with_reducible repeat (first | apply Kd.R_alloc | apply Kd.R_drewN | apply Kd.R_drew)); exact (Kd.R_mono (Kd.R_far (p := ⟨gb653, 3, none⟩) (Kd.R_far (p := ⟨gb653, 2, none⟩) (Kd.R_far (p := ⟨gb653, 1, none⟩) (Kd.R_far (p := ⟨gb653, 0, none⟩) (Kd.R_types HO639.out BK653.out (by decide)) (fun _ hk => hk.2) (.int .i8 t647)) (fun _ hk => hk.2) (.int .i8 t648)) (fun _ hk => hk.2) (.int .i8 t649)) (fun _ hk => hk.2) (.slice Ao51 t650.length co51)) (fun _ h_ => h_.1))) (Kd.R_base ho0) hb); have n1_ := Aside0.mk (Kd.R_elder' (by (with_reducible repeat (first | apply Kd.R_alloc | apply Kd.R_drewN | apply Kd.R_drew)); exact (Kd.R_mono (Kd.R_far (p := ⟨gb653, 3, none⟩) (Kd.R_far (p := ⟨gb653, 2, none⟩) (Kd.R_far (p := ⟨gb653, 1, none⟩) (Kd.R_far (p := ⟨gb653, 0, none⟩) (Kd.R_types HO645.out BK653.out (by decide)) (fun _ hk => hk.2) (.int .i8 t647)) (fun _ hk => hk.2) (.int .i8 t648)) (fun _ hk => hk.2) (.int .i8 t649)) (fun _ hk => hk.2) (.slice Ao51 t650.length co51)) (fun _ h_ => h_.1))) (Kd.R_base ho0) hb); have n2_ := Aside0.mk (Kd.R_elder' (by (with_reducible repeat (first | apply Kd.R_alloc | apply Kd.R_drewN | apply Kd.R_drew)); exact (Kd.R_mono (Kd.R_far (p := ⟨gb653, 3, none⟩) (Kd.R_far (p := ⟨gb653, 2, none⟩) (Kd.R_far (p := ⟨gb653, 1, none⟩) (Kd.R_far (p := ⟨gb653, 0, none⟩) (Kd.R_types HO652.out BK653.out (by decide)) (fun _ hk => hk.2) (.int .i8 t647)) (fun _ hk => hk.2) (.int .i8 t648)) (fun _ hk => hk.2) (.int .i8 t649)) (fun _ hk => hk.2) (.slice Ao51 t650.length co51)) (fun _ h_ => h_.1))) (Kd.R_base ho0) hb); have n3_ := Aside0.mk (Kd.R_lower (Kd.R_new' (Kd.R_new' (Kd.R_new' ho0 (Kd.R_lt (by (with_reducible repeat (first | apply Kd.R_alloc | apply Kd.R_drewN | apply Kd.R_drew)); exact (Kd.R_mono (Kd.R_far (p := ⟨gb653, 3, none⟩) (Kd.R_far (p := ⟨gb653, 2, none⟩) (Kd.R_far (p := ⟨gb653, 1, none⟩) (Kd.R_far (p := ⟨gb653, 0, none⟩) (Kd.R_types HO639.out BK653.out (by decide)) (fun _ hk => hk.2) (.int .i8 t647)) (fun _ hk => hk.2) (.int .i8 t648)) (fun _ hk => hk.2) (.int .i8 t649)) (fun _ hk => hk.2) (.slice Ao51 t650.length co51)) (fun _ h_ => h_.1))))) (Kd.R_lt (by (with_reducible repeat (first | apply Kd.R_alloc | apply Kd.R_drewN | apply Kd.R_drew)); exact (Kd.R_mono (Kd.R_far (p := ⟨gb653, 3, none⟩) (Kd.R_far (p := ⟨gb653, 2, none⟩) (Kd.R_far (p := ⟨gb653, 1, none⟩) (Kd.R_far (p := ⟨gb653, 0, none⟩) (Kd.R_types HO645.out BK653.out (by decide)) (fun _ hk => hk.2) (.int .i8 t647)) (fun _ hk => hk.2) (.int .i8 t648)) (fun _ hk => hk.2) (.int .i8 t649)) (fun _ hk => hk.2) (.slice Ao51 t650.length co51)) (fun _ h_ => h_.1))))) (Kd.R_lt (by (with_reducible repeat (first | apply Kd.R_alloc | apply Kd.R_drewN | apply Kd.R_drew)); exact (Kd.R_mono (Kd.R_far (p := ⟨gb653, 3, none⟩) (Kd.R_far (p := ⟨gb653, 2, none⟩) (Kd.R_far (p := ⟨gb653, 1, none⟩) (Kd.R_far (p := ⟨gb653, 0, none⟩) (Kd.R_types HO652.out BK653.out (by decide)) (fun _ hk => hk.2) (.int .i8 t647)) (fun _ hk => hk.2) (.int .i8 t648)) (fun _ hk => hk.2) (.int .i8 t649)) (fun _ hk => hk.2) (.slice Ao51 t650.length co51)) (fun _ h_ => h_.1))))) (below_size (by repeat (first | (with_reducible first | exact HB.out | apply below_alloc | apply pw_below_drewN | apply below_drew1 | refine below_set ?_ GE630.out | refine below_set ?_ GE631.out | refine below_set ?_ GE653.out) | exact HB.out)))); have n4_ := Aside0.mk (blk_below (g := gb630) (o := .cells #[.int .i8 a0_0, .int .i8 a0_1, .int .i8 a0_2, .slice A0_3 l0_3.length c0_3] 64 (0, 0)) (by (with_reducible repeat (first | refine blk_drewN ?_ _ | refine blk_drew ?_ | refine blk_alloc ?_ _)); refine blk_far ?_ NB630_653.out _; (with_reducible repeat (first | refine blk_drewN ?_ _ | refine blk_drew ?_ | refine blk_alloc ?_ _)); refine blk_far ?_ NB630_653.out _; (with_reducible repeat (first | refine blk_drewN ?_ _ | refine blk_drew ?_ | refine blk_alloc ?_ _)); refine blk_far ?_ NB630_653.out _; (with_reducible repeat (first | refine blk_drewN ?_ _ | refine blk_drew ?_ | refine blk_alloc ?_ _)); refine blk_far ?_ NB630_653.out _; (with_reducible repeat (first | refine blk_drewN ?_ _ | refine blk_drew ?_ | refine blk_alloc ?_ _)); exact BK630.out) hb); have n5_ := Aside0.mk (blk_below (g := gb631) (o := .cells #[.int .i8 a1_0, .int .i8 a1_1, .int .i8 a1_2, .slice A1_3 l1_3.length c1_3] 64 (0, 0)) (by (with_reducible repeat (first | refine blk_drewN ?_ _ | refine blk_drew ?_ | refine blk_alloc ?_ _)); refine blk_far ?_ NB631_653.out _; (with_reducible repeat (first | refine blk_drewN ?_ _ | refine blk_drew ?_ | refine blk_alloc ?_ _)); refine blk_far ?_ NB631_653.out _; (with_reducible repeat (first | refine blk_drewN ?_ _ | refine blk_drew ?_ | refine blk_alloc ?_ _)); refine blk_far ?_ NB631_653.out _; (with_reducible repeat (first | refine blk_drewN ?_ _ | refine blk_drew ?_ | refine blk_alloc ?_ _)); refine blk_far ?_ NB631_653.out _; (with_reducible repeat (first | refine blk_drewN ?_ _ | refine blk_drew ?_ | refine blk_alloc ?_ _)); exact BK631.out) hb); have n6_ := Aside0.mk (blk_below (g := gb653) (o := .cells #[.int .i8 t647, .int .i8 t648, .int .i8 t649, .slice Ao51 t650.length co51] 68 (0, 0)) (by (with_reducible repeat (first | refine blk_drewN ?_ _ | refine blk_drew ?_ | refine blk_alloc ?_ _)); refine blk_put (cs := #[.int .i8 t647, .int .i8 t648, .int .i8 t649, .slice none 0 0]) ?_ 3 _ rfl; (with_reducible repeat (first | refine blk_drewN ?_ _ | refine blk_drew ?_ | refine blk_alloc ?_ _)); refine blk_put (cs := #[.int .i8 t647, .int .i8 t648, .int .i8 0, .slice none 0 0]) ?_ 2 _ rfl; (with_reducible repeat (first | refine blk_drewN ?_ _ | refine blk_drew ?_ | refine blk_alloc ?_ _)); refine blk_put (cs := #[.int .i8 t647, .int .i8 0, .int .i8 0, .slice none 0 0]) ?_ 1 _ rfl; (with_reducible repeat (first | refine blk_drewN ?_ _ | refine blk_drew ?_ | refine blk_alloc ?_ _)); refine blk_put (cs := #[.int .i8 0, .int .i8 0, .int .i8 0, .slice none 0 0]) ?_ 0 _ rfl; (with_reducible repeat (first | refine blk_drewN ?_ _ | refine blk_drew ?_ | refine blk_alloc ?_ _)); exact BK653.out) hb); have n7_ := Aside0.mk (below_step (by repeat (first | (with_reducible first | exact HB.out | apply below_alloc | apply pw_below_drewN | apply below_drew1 | refine below_set ?_ GE630.out | refine below_set ?_ GE631.out | refine below_set ?_ GE653.out) | exact HB.out)) hb); clear HO639; clear HO645; clear HO652; clear BK630; clear BK631; clear BK653; clear HB; have HO639 := n0_; have HO645 := n1_; have HO652 := n2_; have HO659 := n3_; have BK630 := n4_; have BK631 := n5_; have BK653 := n6_; have HB := n7_; clear n0_ n1_ n2_ n3_ n4_ n5_ n6_ n7_; (try clear hb); (try clear hb2); (try clear hk); (try clear hi); (try clear ho0)) | ((with_reducible refine gate_dst (N := 8) rfl ?_); refine box_event ?hg (N := 8) ?hd (cs := #[.int .i8 0, .int .i8 0, .int .i8 0, .slice none 0 0]) (t := 68) ?hr ?_; (case hd => rfl); (case hg => rfl); (case hr => first | (go_simp; done) | (go_simp; rfl)); intro gb660 hg w54 hbox hb; have n0_ := Aside0.mk (Kd.R_below (by (with_reducible repeat (first | apply Kd.R_alloc | apply Kd.R_drewN | apply Kd.R_drew)); exact HO639.out) hb); have n1_ := Aside0.mk (Kd.R_below (by (with_reducible repeat (first | apply Kd.R_alloc | apply Kd.R_drewN | apply Kd.R_drew)); exact HO645.out) hb); have n2_ := Aside0.mk (Kd.R_below (by (with_reducible repeat (first | apply Kd.R_alloc | apply Kd.R_drewN | apply Kd.R_drew)); exact HO652.out) hb); have n3_ := Aside0.mk (Kd.R_below (by (with_reducible repeat (first | apply Kd.R_alloc | apply Kd.R_drewN | apply Kd.R_drew)); exact HO659.out) hb); have n4_ := Aside0.mk (blk_below (g := gb630) (o := .cells #[.int .i8 a0_0, .int .i8 a0_1, .int .i8 a0_2, .slice A0_3 l0_3.length c0_3] 64 (0, 0)) (by (with_reducible repeat (first | refine blk_drewN ?_ _ | refine blk_drew ?_ | refine blk_alloc ?_ _)); exact BK630.out) hb); have n5_ := Aside0.mk (blk_below (g := gb631) (o := .cells #[.int .i8 a1_0, .int .i8 a1_1, .int .i8 a1_2, .slice A1_3 l1_3.length c1_3] 64 (0, 0)) (by (with_reducible repeat (first | refine blk_drewN ?_ _ | refine blk_drew ?_ | refine blk_alloc ?_ _)); exact BK631.out) hb); have n6_ := Aside0.mk (blk_below (g := gb653) (o := .cells #[.int .i8 t647, .int .i8 t648, .int .i8 t649, .slice Ao51 t650.length co51] 68 (0, 0)) (by (with_reducible repeat (first | refine blk_drewN ?_ _ | refine blk_drew ?_ | refine blk_alloc ?_ _)); exact BK653.out) hb); have n7_ := Aside0.mk (below_step (by repeat (first | (with_reducible first | exact HB.out | apply below_alloc | apply pw_below_drewN | apply below_drew1 | refine below_set ?_ GE630.out | refine below_set ?_ GE631.out | refine below_set ?_ GE653.out) | exact HB.out)) hb); have n8_ := Aside0.mk (hbox); have n9_ := Aside0.mk ((by rw [hg]; exact (below_size (by repeat (first | (with_reducible first | exact HB.out | apply below_alloc | apply pw_below_drewN | apply below_drew1 | refine below_set ?_ GE630.out | refine below_set ?_ GE631.out | refine below_set ?_ GE653.out) | exact HB.out))) : w.heap.size ≤ gb660)); have n10_ := Aside0.mk ((by rw [hg]; exact (below_size (by repeat (first | (with_reducible first | exact HB.out | apply below_alloc | apply pw_below_drewN | apply below_drew1 | refine below_set ?_ GE630.out | refine below_set ?_ GE631.out | refine below_set ?_ GE653.out) | exact HB.out))) : w.heap.size ≤ gb660)); have n11_ := Aside0.mk ((by rw [hg]; exact Nat.ne_of_lt (blk_lt (g := gb630) (o := .cells #[.int .i8 a0_0, .int .i8 a0_1, .int .i8 a0_2, .slice A0_3 l0_3.length c0_3] 64 (0, 0)) (by (with_reducible repeat (first | refine blk_drewN ?_ _ | refine blk_drew ?_ | refine blk_alloc ?_ _)); exact BK630.out)) : gb630 ≠ gb660)); have n12_ := Aside0.mk ((by rw [hg]; exact Nat.ne_of_gt (blk_lt (g := gb630) (o := .cells #[.int .i8 a0_0, .int .i8 a0_1, .int .i8 a0_2, .slice A0_3 l0_3.length c0_3] 64 (0, 0)) (by (with_reducible repeat (first | refine blk_drewN ?_ _ | refine blk_drew ?_ | refine blk_alloc ?_ _)); exact BK630.out)) : gb660 ≠ gb630)); have n13_ := Aside0.mk ((by rw [hg]; exact Nat.ne_of_lt (blk_lt (g := gb631) (o := .cells #[.int .i8 a1_0, .int .i8 a1_1, .int .i8 a1_2, .slice A1_3 l1_3.length c1_3] 64 (0, 0)) (by (with_reducible repeat (first | refine blk_drewN ?_ _ | refine blk_drew ?_ | refine blk_alloc ?_ _)); exact BK631.out)) : gb631 ≠ gb660)); have n14_ := Aside0.mk ((by rw [hg]; exact Nat.ne_of_gt (blk_lt (g := gb631) (o := .cells #[.int .i8 a1_0, .int .i8 a1_1, .int .i8 a1_2, .slice A1_3 l1_3.length c1_3] 64 (0, 0)) (by (with_reducible repeat (first | refine blk_drewN ?_ _ | refine blk_drew ?_ | refine blk_alloc ?_ _)); exact BK631.out)) : gb660 ≠ gb631)); have n15_ := Aside0.mk ((by rw [hg]; exact Nat.ne_of_lt (blk_lt (g := gb653) (o := .cells #[.int .i8 t647, .int .i8 t648, .int .i8 t649, .slice Ao51 t650.length co51] 68 (0, 0)) (by (with_reducible repeat (first | refine blk_drewN ?_ _ | refine blk_drew ?_ | refine blk_alloc ?_ _)); exact BK653.out)) : gb653 ≠ gb660)); have n16_ := Aside0.mk ((by rw [hg]; exact Nat.ne_of_gt (blk_lt (g := gb653) (o := .cells #[.int .i8 t647, .int .i8 t648, .int .i8 t649, .slice Ao51 t650.length co51] 68 (0, 0)) (by (with_reducible repeat (first | refine blk_drewN ?_ _ | refine blk_drew ?_ | refine blk_alloc ?_ _)); exact BK653.out)) : gb660 ≠ gb653)); clear HO639; clear HO645; clear HO652; clear HO659; clear BK630; clear BK631; clear BK653; clear HB; have HO639 := n0_; have HO645 := n1_; have HO652 := n2_; have HO659 := n3_; have BK630 := n4_; have BK631 := n5_; have BK653 := n6_; have HB := n7_; have BK660 := n8_; have GW660 := n9_; have GE660 := n10_; have NB630_660 := n11_; have NB660_630 := n12_; have NB631_660 := n13_; have NB660_631 := n14_; have NB653_660 := n15_; have NB660_653 := n16_; clear n0_ n1_ n2_ n3_ n4_ n5_ n6_ n7_ n8_ n9_ n10_ n11_ n12_ n13_ n14_ n15_ n16_; clear hb hbox hg; have hnb55 := NB660_630.out; have hnc55 := NB630_660.out; have hnb56 := NB660_631.out; have hnc56 := NB631_660.out; have hnb57 := NB660_653.out; have hnc57 := NB653_660.out; have hcz58_0 : w54.cell? ⟨gb660, 0, none⟩ = some (.int .i8 0) := (blk_cell BK660.out 0).trans rfl; have hcz58_1 : w54.cell? ⟨gb660, 1, none⟩ = some (.int .i8 0) := (blk_cell BK660.out 1).trans rfl; have hcz58_2 : w54.cell? ⟨gb660, 2, none⟩ = some (.int .i8 0) := (blk_cell BK660.out 2).trans rfl; have hcz58_3 : w54.cell? ⟨gb660, 3, none⟩ = some (.slice none 0 0) := (blk_cell BK660.out 3).trans rfl; have hfz58_0 := blk_frozen BK660.out 0; have hfz58_1 := blk_frozen BK660.out 1; have hfz58_2 := blk_frozen BK660.out 2; have hfz58_3 := blk_frozen BK660.out 3; obtain ⟨Ao59, co59, eo59⟩ := Kd.R_slice HO659.out; subst eo59; have hcz60_0 : w54.cell? ⟨gb653, 0, none⟩ = some (.int .i8 t647) := (blk_cell BK653.out 0).trans rfl; have hcz60_1 : w54.cell? ⟨gb653, 1, none⟩ = some (.int .i8 t648) := (blk_cell BK653.out 1).trans rfl; have hcz60_2 : w54.cell? ⟨gb653, 2, none⟩ = some (.int .i8 t649) := (blk_cell BK653.out 2).trans rfl; have hcz60_3 : w54.cell? ⟨gb653, 3, none⟩ = some (.slice Ao51 t650.length co51) := (blk_cell BK653.out 3).trans rfl; have hfz60_0 := blk_frozen BK653.out 0; have hfz60_1 := blk_frozen BK653.out 1; have hfz60_2 := blk_frozen BK653.out 2; have hfz60_3 := blk_frozen BK653.out 3) | ((with_reducible refine gate_callee (f := 51) rfl ?_); refine goesL_ (some 31) rfl rfl Try.func51 (by kernel_rfl) rfl #[.agg #[.int .i8 t647, .int .i8 t648, .int .i8 t649, .slice Ao51 t650.length co51], .agg #[.int .i8 t654, .int .i8 t655, .int .i8 t656, .slice Ao59 t657.length co59]] rfl (by (try simp only [List.map_toArray, List.map_cons, List.map_nil]); first | done | rfl | (simp only [List.length_drop, List.length_take]; rfl)) ?_; (with_reducible refine (impl_SamePattern.calls k t647 t648 t649 _ _ t650 t654 t655 t656 _ _ t657 t661 _ ?side1 ?side2 ?side3 ?side4 A24.out).mono ?_); (case side1 => refine (Kd.R_reads' (e := 29) (base := w.heap.size) (ok := fun k_ => (((True ∧ some k_ ≠ (.slice Ao42 t637.length co42 : Value).ownBlock) ∧ some k_ ≠ (.slice Ao43 t643.length co43 : Value).ownBlock) ∧ some k_ ≠ (.slice Ao59 t657.length co59 : Value).ownBlock)) (n := t650.length) (c := co51) ?_).2.2; exact (by (with_reducible repeat (first | apply Kd.R_alloc | apply Kd.R_drewN | apply Kd.R_drew)); exact (Kd.R_mono (Kd.R_far (p := ⟨gb660, 3, none⟩) (Kd.R_far (p := ⟨gb660, 2, none⟩) (Kd.R_far (p := ⟨gb660, 1, none⟩) (Kd.R_far (p := ⟨gb660, 0, none⟩) (Kd.R_types HO652.out BK660.out (by decide)) (fun _ hk => hk.2) (.int .i8 t654)) (fun _ hk => hk.2) (.int .i8 t655)) (fun _ hk => hk.2) (.int .i8 t656)) (fun _ hk => hk.2) (.slice Ao59 t657.length co59)) (fun _ h_ => h_.1)))); (case side2 => exact (Kd.R_reads' HO652.out).2.1); (case side3 => refine (Kd.R_reads' (e := 29) (base := w.heap.size) (ok := fun k_ => (((True ∧ some k_ ≠ (.slice Ao42 t637.length co42 : Value).ownBlock) ∧ some k_ ≠ (.slice Ao43 t643.length co43 : Value).ownBlock) ∧ some k_ ≠ (.slice Ao51 t650.length co51 : Value).ownBlock)) (n := t657.length) (c := co59) ?_).2.2; exact (by (with_reducible repeat (first | apply Kd.R_alloc | apply Kd.R_drewN | apply Kd.R_drew)); exact (Kd.R_mono (Kd.R_far (p := ⟨gb660, 3, none⟩) (Kd.R_far (p := ⟨gb660, 2, none⟩) (Kd.R_far (p := ⟨gb660, 1, none⟩) (Kd.R_far (p := ⟨gb660, 0, none⟩) (Kd.R_types HO659.out BK660.out (by decide)) (fun _ hk => hk.2) (.int .i8 t654)) (fun _ hk => hk.2) (.int .i8 t655)) (fun _ hk => hk.2) (.int .i8 t656)) (fun _ hk => hk.2) (.slice Ao59 t657.length co59)) (fun _ h_ => h_.1)))); (case side4 => exact (Kd.R_reads' HO659.out).2.1); rintro e w61 ⟨rfl, hb⟩; refine ⟨_, rfl, ?_⟩; have n0_ := Aside0.mk (Kd.R_below (by (with_reducible repeat (first | apply Kd.R_alloc | apply Kd.R_drewN | apply Kd.R_drew)); exact (Kd.R_mono (Kd.R_far (p := ⟨gb660, 3, none⟩) (Kd.R_far (p := ⟨gb660, 2, none⟩) (Kd.R_far (p := ⟨gb660, 1, none⟩) (Kd.R_far (p := ⟨gb660, 0, none⟩) (Kd.R_types HO639.out BK660.out (by decide)) (fun _ hk => hk.2) (.int .i8 t654)) (fun _ hk => hk.2) (.int .i8 t655)) (fun _ hk => hk.2) (.int .i8 t656)) (fun _ hk => hk.2) (.slice Ao59 t657.length co59)) (fun _ h_ => h_.1))) hb); have n1_ := Aside0.mk (Kd.R_below (by (with_reducible repeat (first | apply Kd.R_alloc | apply Kd.R_drewN | apply Kd.R_drew)); exact (Kd.R_mono (Kd.R_far (p := ⟨gb660, 3, none⟩) (Kd.R_far (p := ⟨gb660, 2, none⟩) (Kd.R_far (p := ⟨gb660, 1, none⟩) (Kd.R_far (p := ⟨gb660, 0, none⟩) (Kd.R_types HO645.out BK660.out (by decide)) (fun _ hk => hk.2) (.int .i8 t654)) (fun _ hk => hk.2) (.int .i8 t655)) (fun _ hk => hk.2) (.int .i8 t656)) (fun _ hk => hk.2) (.slice Ao59 t657.length co59)) (fun _ h_ => h_.1))) hb); have n2_ := Aside0.mk (Kd.R_below (by (with_reducible repeat (first | apply Kd.R_alloc | apply Kd.R_drewN | apply Kd.R_drew)); exact (Kd.R_mono (Kd.R_far (p := ⟨gb660, 3, none⟩) (Kd.R_far (p := ⟨gb660, 2, none⟩) (Kd.R_far (p := ⟨gb660, 1, none⟩) (Kd.R_far (p := ⟨gb660, 0, none⟩) (Kd.R_types HO652.out BK660.out (by decide)) (fun _ hk => hk.2) (.int .i8 t654)) (fun _ hk => hk.2) (.int .i8 t655)) (fun _ hk => hk.2) (.int .i8 t656)) (fun _ hk => hk.2) (.slice Ao59 t657.length co59)) (fun _ h_ => h_.1))) hb); have n3_ := Aside0.mk (Kd.R_below (by (with_reducible repeat (first | apply Kd.R_alloc | apply Kd.R_drewN | apply Kd.R_drew)); exact (Kd.R_mono (Kd.R_far (p := ⟨gb660, 3, none⟩) (Kd.R_far (p := ⟨gb660, 2, none⟩) (Kd.R_far (p := ⟨gb660, 1, none⟩) (Kd.R_far (p := ⟨gb660, 0, none⟩) (Kd.R_types HO659.out BK660.out (by decide)) (fun _ hk => hk.2) (.int .i8 t654)) (fun _ hk => hk.2) (.int .i8 t655)) (fun _ hk => hk.2) (.int .i8 t656)) (fun _ hk => hk.2) (.slice Ao59 t657.length co59)) (fun _ h_ => h_.1))) hb); have n4_ := Aside0.mk (blk_below (g := gb630) (o := .cells #[.int .i8 a0_0, .int .i8 a0_1, .int .i8 a0_2, .slice A0_3 l0_3.length c0_3] 64 (0, 0)) (by (with_reducible repeat (first | refine blk_drewN ?_ _ | refine blk_drew ?_ | refine blk_alloc ?_ _)); refine blk_far ?_ NB630_660.out _; (with_reducible repeat (first | refine blk_drewN ?_ _ | refine blk_drew ?_ | refine blk_alloc ?_ _)); refine blk_far ?_ NB630_660.out _; (with_reducible repeat (first | refine blk_drewN ?_ _ | refine blk_drew ?_ | refine blk_alloc ?_ _)); refine blk_far ?_ NB630_660.out _; (with_reducible repeat (first | refine blk_drewN ?_ _ | refine blk_drew ?_ | refine blk_alloc ?_ _)); refine blk_far ?_ NB630_660.out _; (with_reducible repeat (first | refine blk_drewN ?_ _ | refine blk_drew ?_ | refine blk_alloc ?_ _)); exact BK630.out) hb); have n5_ := Aside0.mk (blk_below (g := gb631) (o := .cells #[.int .i8 a1_0, .int .i8 a1_1, .int .i8 a1_2, .slice A1_3 l1_3.length c1_3] 64 (0, 0)) (by (with_reducible repeat (first | refine blk_drewN ?_ _ | refine blk_drew ?_ | refine blk_alloc ?_ _)); refine blk_far ?_ NB631_660.out _; (with_reducible repeat (first | refine blk_drewN ?_ _ | refine blk_drew ?_ | refine blk_alloc ?_ _)); refine blk_far ?_ NB631_660.out _; (with_reducible repeat (first | refine blk_drewN ?_ _ | refine blk_drew ?_ | refine blk_alloc ?_ _)); refine blk_far ?_ NB631_660.out _; (with_reducible repeat (first | refine blk_drewN ?_ _ | refine blk_drew ?_ | refine blk_alloc ?_ _)); refine blk_far ?_ NB631_660.out _; (with_reducible repeat (first | refine blk_drewN ?_ _ | refine blk_drew ?_ | refine blk_alloc ?_ _)); exact BK631.out) hb); have n6_ := Aside0.mk (blk_below (g := gb653) (o := .cells #[.int .i8 t647, .int .i8 t648, .int .i8 t649, .slice Ao51 t650.length co51] 68 (0, 0)) (by (with_reducible repeat (first | refine blk_drewN ?_ _ | refine blk_drew ?_ | refine blk_alloc ?_ _)); refine blk_far ?_ NB653_660.out _; (with_reducible repeat (first | refine blk_drewN ?_ _ | refine blk_drew ?_ | refine blk_alloc ?_ _)); refine blk_far ?_ NB653_660.out _; (with_reducible repeat (first | refine blk_drewN ?_ _ | refine blk_drew ?_ | refine blk_alloc ?_ _)); refine blk_far ?_ NB653_660.out _; (with_reducible repeat (first | refine blk_drewN ?_ _ | refine blk_drew ?_ | refine blk_alloc ?_ _)); refine blk_far ?_ NB653_660.out _; (with_reducible repeat (first | refine blk_drewN ?_ _ | refine blk_drew ?_ | refine blk_alloc ?_ _)); exact BK653.out) hb); have n7_ := Aside0.mk (blk_below (g := gb660) (o := .cells #[.int .i8 t654, .int .i8 t655, .int .i8 t656, .slice Ao59 t657.length co59] 68 (0, 0)) (by (with_reducible repeat (first | refine blk_drewN ?_ _ | refine blk_drew ?_ | refine blk_alloc ?_ _)); refine blk_put (cs := #[.int .i8 t654, .int .i8 t655, .int .i8 t656, .slice none 0 0]) ?_ 3 _ rfl; (with_reducible repeat (first | refine blk_drewN ?_ _ | refine blk_drew ?_ | refine blk_alloc ?_ _)); refine blk_put (cs := #[.int .i8 t654, .int .i8 t655, .int .i8 0, .slice none 0 0]) ?_ 2 _ rfl; (with_reducible repeat (first | refine blk_drewN ?_ _ | refine blk_drew ?_ | refine blk_alloc ?_ _)); refine blk_put (cs := #[.int .i8 t654, .int .i8 0, .int .i8 0, .slice none 0 0]) ?_ 1 _ rfl; (with_reducible repeat (first | refine blk_drewN ?_ _ | refine blk_drew ?_ | refine blk_alloc ?_ _)); refine blk_put (cs := #[.int .i8 0, .int .i8 0, .int .i8 0, .slice none 0 0]) ?_ 0 _ rfl; (with_reducible repeat (first | refine blk_drewN ?_ _ | refine blk_drew ?_ | refine blk_alloc ?_ _)); exact BK660.out) hb); have n8_ := Aside0.mk (below_step (by repeat (first | (with_reducible first | exact HB.out | apply below_alloc | apply pw_below_drewN | apply below_drew1 | refine below_set ?_ GE630.out | refine below_set ?_ GE631.out | refine below_set ?_ GE653.out | refine below_set ?_ GE660.out) | exact HB.out)) hb); clear HO639; clear HO645; clear HO652; clear HO659; clear BK630; clear BK631; clear BK653; clear BK660; clear HB; have HO639 := n0_; have HO645 := n1_; have HO652 := n2_; have HO659 := n3_; have BK630 := n4_; have BK631 := n5_; have BK653 := n6_; have BK660 := n7_; have HB := n8_; clear n0_ n1_ n2_ n3_ n4_ n5_ n6_ n7_ n8_; (try clear hb); (try clear hb2); (try clear hk); (try clear hi)))
            have n0_ := Aside0.mk (Kd.R_drew HO639.out)
            have n1_ := Aside0.mk (Kd.R_drew HO645.out)
            have n2_ := Aside0.mk (Kd.R_drew HO652.out)
            have n3_ := Aside0.mk (Kd.R_drew HO659.out)
            have n4_ := Aside0.mk (blk_drew BK630.out)
            have n5_ := Aside0.mk (blk_drew BK631.out)
            have n6_ := Aside0.mk (blk_drew BK653.out)
            have n7_ := Aside0.mk (blk_drew BK660.out)
            have n8_ := Aside0.mk (below_drew1 HB.out)
            clear HO639
            clear HO645
            clear HO652
            clear HO659
            clear BK630
            clear BK631
            clear BK653
            clear BK660
            clear HB
            have HO639 := n0_
            have HO645 := n1_
            have HO652 := n2_
            have HO659 := n3_
            have BK630 := n4_
            have BK631 := n5_
            have BK653 := n6_
            have BK660 := n7_
            have HB := n8_
            clear n0_ n1_ n2_ n3_ n4_ n5_ n6_ n7_ n8_
            refine start_ (n := 5) (S := fun w' => w'.cell? ⟨gb653, 0, none⟩ = some (.int .i8 t647) ∧ w'.cell? ⟨gb653, 1, none⟩ = some (.int .i8 t648) ∧ w'.cell? ⟨gb653, 2, none⟩ = some (.int .i8 t649) ∧ w'.cell? ⟨gb653, 3, none⟩ = some (.slice Ao51 t650.length co51) ∧ w'.cell? ⟨gb630, 0, none⟩ = some (.int .i8 a0_0) ∧ w'.cell? ⟨gb630, 1, none⟩ = some (.int .i8 a0_1) ∧ w'.cell? ⟨gb630, 2, none⟩ = some (.int .i8 a0_2) ∧ w'.cell? ⟨gb630, 3, none⟩ = some (.slice A0_3 l0_3.length c0_3)) (ds := []) #[false, false, false, false, false] (by kernel_rfl) rfl rfl ⟨(blk_cell BK653.out 0).trans rfl, (blk_cell BK653.out 1).trans rfl, (blk_cell BK653.out 2).trans rfl, (blk_cell BK653.out 3).trans rfl, (blk_cell BK630.out 0).trans rfl, (blk_cell BK630.out 1).trans rfl, (blk_cell BK630.out 2).trans rfl, (blk_cell BK630.out 3).trans rfl⟩ (fun hHeld => ?_)
            generalize w61.drew = w62 at HO639 HO645 HO652 HO659 BK630 BK631 BK653 BK660 HB hHeld ⊢
            refine take_ (i := 0) (N := some 35) (v := ?_) (a' := ?_) #[true, false, false, false, false] rfl rfl (by kernel_rfl) (fun _ _ _ h => h) (Or.inl ⟨by rfl, ?_⟩) hHeld ?_ ?_
            rotate_left
            · rintro w' ⟨s0, s1, s2, s3, s4, s5, s6, s7⟩
              go_simp
              with_reducible rfl
            rotate_left
            · simp only [Act.put, List.setIfInBounds_toArray, List.set_cons_zero, List.set_cons_succ, i64_w, i32_w]
              rfl
            refine take_ (i := 1) (N := some 36) (v := ?_) (a' := ?_) #[true, true, false, false, false] rfl rfl (by kernel_rfl) (fun _ _ _ h => h) (Or.inl ⟨by rfl, ?_⟩) hHeld ?_ ?_
            rotate_left
            · rintro w' ⟨s0, s1, s2, s3, s4, s5, s6, s7⟩
              go_simp
              with_reducible rfl
            rotate_left
            · simp only [Act.put, List.setIfInBounds_toArray, List.set_cons_zero, List.set_cons_succ, i64_w, i32_w]
              rfl
            refine one_ (i := 2) (N := some 37) #[true, true, true, false, false] rfl rfl (by kernel_rfl) (by decide) (fun K hK => ?_)
            refine goes_ Try.func50 (by kernel_rfl) rfl #[.agg #[.int .i8 a0_0, .int .i8 a0_1, .int .i8 a0_2, .slice A0_3 l0_3.length c0_3]] (by rfl) rfl rfl (by (try simp only [List.map_toArray, List.map_cons, List.map_nil]); first | done | rfl | (simp only [List.length_drop, List.length_take]; rfl)) ?_
            with_reducible refine (laws_toPattern.calls k a0_0 a0_1 a0_2 _ _ l0_3 t662 t663 t664 t665 _ ?side1 ?side2 A26.out).mono ?_
            (case side1 => repeat (first | exact (Kd.C_below HR0_3.out HB.out) | (with_reducible refine Kd.C_alloc ?_ _) | (with_reducible refine Kd.C_drewN ?_ _) | (with_reducible refine Kd.C_drew ?_)))
            (case side2 => exact HC0_3.out)
            rintro e w63 ⟨v666, rfl, ho0, hb⟩
            refine ⟨_, rfl, ?_⟩
            have n0_ := Aside0.mk (Kd.R_elder' (by (with_reducible repeat (first | apply Kd.R_alloc | apply Kd.R_drewN | apply Kd.R_drew)); exact HO639.out) (Kd.R_base ho0) hb)
            have n1_ := Aside0.mk (Kd.R_elder' (by (with_reducible repeat (first | apply Kd.R_alloc | apply Kd.R_drewN | apply Kd.R_drew)); exact HO645.out) (Kd.R_base ho0) hb)
            have n2_ := Aside0.mk (Kd.R_elder' (by (with_reducible repeat (first | apply Kd.R_alloc | apply Kd.R_drewN | apply Kd.R_drew)); exact HO652.out) (Kd.R_base ho0) hb)
            have n3_ := Aside0.mk (Kd.R_elder' (by (with_reducible repeat (first | apply Kd.R_alloc | apply Kd.R_drewN | apply Kd.R_drew)); exact HO659.out) (Kd.R_base ho0) hb)
            have n4_ := Aside0.mk (Kd.R_lower (Kd.R_new' (Kd.R_new' (Kd.R_new' (Kd.R_new' ho0 (Kd.R_lt (by (with_reducible repeat (first | apply Kd.R_alloc | apply Kd.R_drewN | apply Kd.R_drew)); exact HO639.out))) (Kd.R_lt (by (with_reducible repeat (first | apply Kd.R_alloc | apply Kd.R_drewN | apply Kd.R_drew)); exact HO645.out))) (Kd.R_lt (by (with_reducible repeat (first | apply Kd.R_alloc | apply Kd.R_drewN | apply Kd.R_drew)); exact HO652.out))) (Kd.R_lt (by (with_reducible repeat (first | apply Kd.R_alloc | apply Kd.R_drewN | apply Kd.R_drew)); exact HO659.out))) (below_size (by repeat (first | (with_reducible first | exact HB.out | apply below_alloc | apply pw_below_drewN | apply below_drew1 | refine below_set ?_ GE630.out | refine below_set ?_ GE631.out | refine below_set ?_ GE653.out | refine below_set ?_ GE660.out) | exact HB.out))))
            have n5_ := Aside0.mk (blk_below (g := gb630) (o := .cells #[.int .i8 a0_0, .int .i8 a0_1, .int .i8 a0_2, .slice A0_3 l0_3.length c0_3] 64 (0, 0)) (by (with_reducible repeat (first | refine blk_drewN ?_ _ | refine blk_drew ?_ | refine blk_alloc ?_ _)); exact BK630.out) hb)
            have n6_ := Aside0.mk (blk_below (g := gb631) (o := .cells #[.int .i8 a1_0, .int .i8 a1_1, .int .i8 a1_2, .slice A1_3 l1_3.length c1_3] 64 (0, 0)) (by (with_reducible repeat (first | refine blk_drewN ?_ _ | refine blk_drew ?_ | refine blk_alloc ?_ _)); exact BK631.out) hb)
            have n7_ := Aside0.mk (blk_below (g := gb653) (o := .cells #[.int .i8 t647, .int .i8 t648, .int .i8 t649, .slice Ao51 t650.length co51] 68 (0, 0)) (by (with_reducible repeat (first | refine blk_drewN ?_ _ | refine blk_drew ?_ | refine blk_alloc ?_ _)); exact BK653.out) hb)
            have n8_ := Aside0.mk (blk_below (g := gb660) (o := .cells #[.int .i8 t654, .int .i8 t655, .int .i8 t656, .slice Ao59 t657.length co59] 68 (0, 0)) (by (with_reducible repeat (first | refine blk_drewN ?_ _ | refine blk_drew ?_ | refine blk_alloc ?_ _)); exact BK660.out) hb)
            have n9_ := Aside0.mk (below_step (by repeat (first | (with_reducible first | exact HB.out | apply below_alloc | apply pw_below_drewN | apply below_drew1 | refine below_set ?_ GE630.out | refine below_set ?_ GE631.out | refine below_set ?_ GE653.out | refine below_set ?_ GE660.out) | exact HB.out)) hb)
            clear HO639
            clear HO645
            clear HO652
            clear HO659
            clear BK630
            clear BK631
            clear BK653
            clear BK660
            clear HB
            have HO639 := n0_
            have HO645 := n1_
            have HO652 := n2_
            have HO659 := n3_
            have HO667 := n4_
            have BK630 := n5_
            have BK631 := n6_
            have BK653 := n7_
            have BK660 := n8_
            have HB := n9_
            clear n0_ n1_ n2_ n3_ n4_ n5_ n6_ n7_ n8_ n9_
            (try clear hb)
            (try clear hb2)
            (try clear hk)
            (try clear hi)
            (try clear ho0)
            obtain ⟨Ao64, co64, eo64⟩ := Kd.R_slice HO667.out
            (first | subst eo64 | (injection eo64 with f1_ f2_ f3_; have f4_ := f1_.symm; have f5_ := f3_.symm; clear f1_ f2_ f3_; subst f4_; subst f5_))
            refine hK.out _ _ ⟨(blk_cell BK653.out 0).trans rfl, (blk_cell BK653.out 1).trans rfl, (blk_cell BK653.out 2).trans rfl, (blk_cell BK653.out 3).trans rfl, (blk_cell BK630.out 0).trans rfl, (blk_cell BK630.out 1).trans rfl, (blk_cell BK630.out 2).trans rfl, (blk_cell BK630.out 3).trans rfl⟩ (fun hHeld => ?_)
            clear hK K
            refine norm_ (a' := ?_) ?_ ?_
            rotate_left
            · show Act.put _ (some 37) _ = _
              simp only [Act.put, List.setIfInBounds_toArray, List.set_cons_zero, List.set_cons_succ, i64_w, i32_w]
              rfl
            refine one_ (i := 3) (N := some 38) #[true, true, true, true, false] rfl rfl (by kernel_rfl) (by decide) (fun K hK => ?_)
            refine goes_ Try.func52 (by kernel_rfl) rfl #[.agg #[.int .i8 t647, .int .i8 t648, .int .i8 t649, .slice Ao51 t650.length co51], .agg #[.int .i8 t662, .int .i8 t663, .int .i8 t664, .slice Ao64 t665.length co64]] (by rfl) rfl rfl (by (try simp only [List.map_toArray, List.map_cons, List.map_nil]); first | done | rfl | (simp only [List.length_drop, List.length_take]; rfl)) ?_
            with_reducible refine (laws_eqPattern.calls k t647 t648 t649 _ _ t650 t662 t663 t664 _ _ t665 true _ ?side1 ?side2 ?side3 ?side4 A27.out).mono ?_
            (case side1 => repeat (first | exact (Kd.R_reads' HO652.out).2.2 | (with_reducible refine Kd.C_alloc ?_ _) | (with_reducible refine Kd.C_drewN ?_ _) | (with_reducible refine Kd.C_drew ?_)))
            (case side2 => exact (Kd.R_reads' HO652.out).2.1)
            (case side3 => repeat (first | exact (Kd.R_reads' HO667.out).2.2 | (with_reducible refine Kd.C_alloc ?_ _) | (with_reducible refine Kd.C_drewN ?_ _) | (with_reducible refine Kd.C_drew ?_)))
            (case side4 => exact (Kd.R_reads' HO667.out).2.1)
            rintro e w65 ⟨rfl, hb⟩
            refine ⟨_, rfl, ?_⟩
            have n0_ := Aside0.mk (Kd.R_below (by (with_reducible repeat (first | apply Kd.R_alloc | apply Kd.R_drewN | apply Kd.R_drew)); exact HO639.out) hb)
            have n1_ := Aside0.mk (Kd.R_below (by (with_reducible repeat (first | apply Kd.R_alloc | apply Kd.R_drewN | apply Kd.R_drew)); exact HO645.out) hb)
            have n2_ := Aside0.mk (Kd.R_below (by (with_reducible repeat (first | apply Kd.R_alloc | apply Kd.R_drewN | apply Kd.R_drew)); exact HO652.out) hb)
            have n3_ := Aside0.mk (Kd.R_below (by (with_reducible repeat (first | apply Kd.R_alloc | apply Kd.R_drewN | apply Kd.R_drew)); exact HO659.out) hb)
            have n4_ := Aside0.mk (Kd.R_below (by (with_reducible repeat (first | apply Kd.R_alloc | apply Kd.R_drewN | apply Kd.R_drew)); exact HO667.out) hb)
            have n5_ := Aside0.mk (blk_below (g := gb630) (o := .cells #[.int .i8 a0_0, .int .i8 a0_1, .int .i8 a0_2, .slice A0_3 l0_3.length c0_3] 64 (0, 0)) (by (with_reducible repeat (first | refine blk_drewN ?_ _ | refine blk_drew ?_ | refine blk_alloc ?_ _)); exact BK630.out) hb)
            have n6_ := Aside0.mk (blk_below (g := gb631) (o := .cells #[.int .i8 a1_0, .int .i8 a1_1, .int .i8 a1_2, .slice A1_3 l1_3.length c1_3] 64 (0, 0)) (by (with_reducible repeat (first | refine blk_drewN ?_ _ | refine blk_drew ?_ | refine blk_alloc ?_ _)); exact BK631.out) hb)
            have n7_ := Aside0.mk (blk_below (g := gb653) (o := .cells #[.int .i8 t647, .int .i8 t648, .int .i8 t649, .slice Ao51 t650.length co51] 68 (0, 0)) (by (with_reducible repeat (first | refine blk_drewN ?_ _ | refine blk_drew ?_ | refine blk_alloc ?_ _)); exact BK653.out) hb)
            have n8_ := Aside0.mk (blk_below (g := gb660) (o := .cells #[.int .i8 t654, .int .i8 t655, .int .i8 t656, .slice Ao59 t657.length co59] 68 (0, 0)) (by (with_reducible repeat (first | refine blk_drewN ?_ _ | refine blk_drew ?_ | refine blk_alloc ?_ _)); exact BK660.out) hb)
            have n9_ := Aside0.mk (below_step (by repeat (first | (with_reducible first | exact HB.out | apply below_alloc | apply pw_below_drewN | apply below_drew1 | refine below_set ?_ GE630.out | refine below_set ?_ GE631.out | refine below_set ?_ GE653.out | refine below_set ?_ GE660.out) | exact HB.out)) hb)
            clear HO639
            clear HO645
            clear HO652
            clear HO659
            clear HO667
            clear BK630
            clear BK631
            clear BK653
            clear BK660
            clear HB
            have HO639 := n0_
            have HO645 := n1_
            have HO652 := n2_
            have HO659 := n3_
            have HO667 := n4_
            have BK630 := n5_
            have BK631 := n6_
            have BK653 := n7_
            have BK660 := n8_
            have HB := n9_
            clear n0_ n1_ n2_ n3_ n4_ n5_ n6_ n7_ n8_ n9_
            (try clear hb)
            (try clear hb2)
            (try clear hk)
            (try clear hi)
            refine hK.out _ _ ⟨(blk_cell BK653.out 0).trans rfl, (blk_cell BK653.out 1).trans rfl, (blk_cell BK653.out 2).trans rfl, (blk_cell BK653.out 3).trans rfl, (blk_cell BK630.out 0).trans rfl, (blk_cell BK630.out 1).trans rfl, (blk_cell BK630.out 2).trans rfl, (blk_cell BK630.out 3).trans rfl⟩ (fun hHeld => ?_)
            clear hK K
            refine norm_ (a' := ?_) ?_ ?_
            rotate_left
            · show Act.put _ (some 38) _ = _
              simp only [Act.put, List.setIfInBounds_toArray, List.set_cons_zero, List.set_cons_succ, i64_w, i32_w]
              rfl
            refine pure_ (i := 4) (N := some 39) (v := ?_) (a' := ?_) #[true, true, true, true, true] rfl rfl (by kernel_rfl) (fun _ _ _ h => h) (Or.inl ⟨by rfl, ?_⟩) ?_ ?_
            rotate_left
            · intro w'
              go_simp
              with_reducible rfl
            rotate_left
            · simp only [Act.put, List.setIfInBounds_toArray, List.set_cons_zero, List.set_cons_succ, i64_w, i32_w]
              rfl
            refine done_ (by kernel_rfl) ?_
            try go_wp2
            have n0_ := Aside0.mk (Kd.R_drew HO639.out)
            have n1_ := Aside0.mk (Kd.R_drew HO645.out)
            have n2_ := Aside0.mk (Kd.R_drew HO652.out)
            have n3_ := Aside0.mk (Kd.R_drew HO659.out)
            have n4_ := Aside0.mk (Kd.R_drew HO667.out)
            have n5_ := Aside0.mk (blk_drew BK630.out)
            have n6_ := Aside0.mk (blk_drew BK631.out)
            have n7_ := Aside0.mk (blk_drew BK653.out)
            have n8_ := Aside0.mk (blk_drew BK660.out)
            have n9_ := Aside0.mk (below_drew1 HB.out)
            clear HO639
            clear HO645
            clear HO652
            clear HO659
            clear HO667
            clear BK630
            clear BK631
            clear BK653
            clear BK660
            clear HB
            have HO639 := n0_
            have HO645 := n1_
            have HO652 := n2_
            have HO659 := n3_
            have HO667 := n4_
            have BK630 := n5_
            have BK631 := n6_
            have BK653 := n7_
            have BK660 := n8_
            have HB := n9_
            clear n0_ n1_ n2_ n3_ n4_ n5_ n6_ n7_ n8_ n9_
            refine start_ (n := 5) (S := fun w' => w'.cell? ⟨gb660, 0, none⟩ = some (.int .i8 t654) ∧ w'.cell? ⟨gb660, 1, none⟩ = some (.int .i8 t655) ∧ w'.cell? ⟨gb660, 2, none⟩ = some (.int .i8 t656) ∧ w'.cell? ⟨gb660, 3, none⟩ = some (.slice Ao59 t657.length co59) ∧ w'.cell? ⟨gb631, 0, none⟩ = some (.int .i8 a1_0) ∧ w'.cell? ⟨gb631, 1, none⟩ = some (.int .i8 a1_1) ∧ w'.cell? ⟨gb631, 2, none⟩ = some (.int .i8 a1_2) ∧ w'.cell? ⟨gb631, 3, none⟩ = some (.slice A1_3 l1_3.length c1_3)) (ds := []) #[false, false, false, false, false] (by kernel_rfl) rfl rfl ⟨(blk_cell BK660.out 0).trans rfl, (blk_cell BK660.out 1).trans rfl, (blk_cell BK660.out 2).trans rfl, (blk_cell BK660.out 3).trans rfl, (blk_cell BK631.out 0).trans rfl, (blk_cell BK631.out 1).trans rfl, (blk_cell BK631.out 2).trans rfl, (blk_cell BK631.out 3).trans rfl⟩ (fun hHeld => ?_)
            generalize w65.drew = w66 at HO639 HO645 HO652 HO659 HO667 BK630 BK631 BK653 BK660 HB hHeld ⊢
            refine take_ (i := 0) (N := some 40) (v := ?_) (a' := ?_) #[true, false, false, false, false] rfl rfl (by kernel_rfl) (fun _ _ _ h => h) (Or.inl ⟨by rfl, ?_⟩) hHeld ?_ ?_
            rotate_left
            · rintro w' ⟨s0, s1, s2, s3, s4, s5, s6, s7⟩
              go_simp
              with_reducible rfl
            rotate_left
            · simp only [Act.put, List.setIfInBounds_toArray, List.set_cons_zero, List.set_cons_succ, i64_w, i32_w]
              rfl
            refine take_ (i := 1) (N := some 41) (v := ?_) (a' := ?_) #[true, true, false, false, false] rfl rfl (by kernel_rfl) (fun _ _ _ h => h) (Or.inl ⟨by rfl, ?_⟩) hHeld ?_ ?_
            rotate_left
            · rintro w' ⟨s0, s1, s2, s3, s4, s5, s6, s7⟩
              go_simp
              with_reducible rfl
            rotate_left
            · simp only [Act.put, List.setIfInBounds_toArray, List.set_cons_zero, List.set_cons_succ, i64_w, i32_w]
              rfl
            refine one_ (i := 2) (N := some 42) #[true, true, true, false, false] rfl rfl (by kernel_rfl) (by decide) (fun K hK => ?_)
            refine goes_ Try.func50 (by kernel_rfl) rfl #[.agg #[.int .i8 a1_0, .int .i8 a1_1, .int .i8 a1_2, .slice A1_3 l1_3.length c1_3]] (by rfl) rfl rfl (by (try simp only [List.map_toArray, List.map_cons, List.map_nil]); first | done | rfl | (simp only [List.length_drop, List.length_take]; rfl)) ?_
            with_reducible refine (laws_toPattern.calls k a1_0 a1_1 a1_2 _ _ l1_3 t669 t670 t671 t672 _ ?side1 ?side2 A29.out).mono ?_
            (case side1 => repeat (first | exact (Kd.C_below HR1_3.out HB.out) | (with_reducible refine Kd.C_alloc ?_ _) | (with_reducible refine Kd.C_drewN ?_ _) | (with_reducible refine Kd.C_drew ?_)))
            (case side2 => exact HC1_3.out)
            rintro e w67 ⟨v673, rfl, ho0, hb⟩
            refine ⟨_, rfl, ?_⟩
            have n0_ := Aside0.mk (Kd.R_elder' (by (with_reducible repeat (first | apply Kd.R_alloc | apply Kd.R_drewN | apply Kd.R_drew)); exact HO639.out) (Kd.R_base ho0) hb)
            have n1_ := Aside0.mk (Kd.R_elder' (by (with_reducible repeat (first | apply Kd.R_alloc | apply Kd.R_drewN | apply Kd.R_drew)); exact HO645.out) (Kd.R_base ho0) hb)
            have n2_ := Aside0.mk (Kd.R_elder' (by (with_reducible repeat (first | apply Kd.R_alloc | apply Kd.R_drewN | apply Kd.R_drew)); exact HO652.out) (Kd.R_base ho0) hb)
            have n3_ := Aside0.mk (Kd.R_elder' (by (with_reducible repeat (first | apply Kd.R_alloc | apply Kd.R_drewN | apply Kd.R_drew)); exact HO659.out) (Kd.R_base ho0) hb)
            have n4_ := Aside0.mk (Kd.R_elder' (by (with_reducible repeat (first | apply Kd.R_alloc | apply Kd.R_drewN | apply Kd.R_drew)); exact HO667.out) (Kd.R_base ho0) hb)
            have n5_ := Aside0.mk (Kd.R_lower (Kd.R_new' (Kd.R_new' (Kd.R_new' (Kd.R_new' (Kd.R_new' ho0 (Kd.R_lt (by (with_reducible repeat (first | apply Kd.R_alloc | apply Kd.R_drewN | apply Kd.R_drew)); exact HO639.out))) (Kd.R_lt (by (with_reducible repeat (first | apply Kd.R_alloc | apply Kd.R_drewN | apply Kd.R_drew)); exact HO645.out))) (Kd.R_lt (by (with_reducible repeat (first | apply Kd.R_alloc | apply Kd.R_drewN | apply Kd.R_drew)); exact HO652.out))) (Kd.R_lt (by (with_reducible repeat (first | apply Kd.R_alloc | apply Kd.R_drewN | apply Kd.R_drew)); exact HO659.out))) (Kd.R_lt (by (with_reducible repeat (first | apply Kd.R_alloc | apply Kd.R_drewN | apply Kd.R_drew)); exact HO667.out))) (below_size (by repeat (first | (with_reducible first | exact HB.out | apply below_alloc | apply pw_below_drewN | apply below_drew1 | refine below_set ?_ GE630.out | refine below_set ?_ GE631.out | refine below_set ?_ GE653.out | refine below_set ?_ GE660.out) | exact HB.out))))
            have n6_ := Aside0.mk (blk_below (g := gb630) (o := .cells #[.int .i8 a0_0, .int .i8 a0_1, .int .i8 a0_2, .slice A0_3 l0_3.length c0_3] 64 (0, 0)) (by (with_reducible repeat (first | refine blk_drewN ?_ _ | refine blk_drew ?_ | refine blk_alloc ?_ _)); exact BK630.out) hb)
            have n7_ := Aside0.mk (blk_below (g := gb631) (o := .cells #[.int .i8 a1_0, .int .i8 a1_1, .int .i8 a1_2, .slice A1_3 l1_3.length c1_3] 64 (0, 0)) (by (with_reducible repeat (first | refine blk_drewN ?_ _ | refine blk_drew ?_ | refine blk_alloc ?_ _)); exact BK631.out) hb)
            have n8_ := Aside0.mk (blk_below (g := gb653) (o := .cells #[.int .i8 t647, .int .i8 t648, .int .i8 t649, .slice Ao51 t650.length co51] 68 (0, 0)) (by (with_reducible repeat (first | refine blk_drewN ?_ _ | refine blk_drew ?_ | refine blk_alloc ?_ _)); exact BK653.out) hb)
            have n9_ := Aside0.mk (blk_below (g := gb660) (o := .cells #[.int .i8 t654, .int .i8 t655, .int .i8 t656, .slice Ao59 t657.length co59] 68 (0, 0)) (by (with_reducible repeat (first | refine blk_drewN ?_ _ | refine blk_drew ?_ | refine blk_alloc ?_ _)); exact BK660.out) hb)
            have n10_ := Aside0.mk (below_step (by repeat (first | (with_reducible first | exact HB.out | apply below_alloc | apply pw_below_drewN | apply below_drew1 | refine below_set ?_ GE630.out | refine below_set ?_ GE631.out | refine below_set ?_ GE653.out | refine below_set ?_ GE660.out) | exact HB.out)) hb)
            clear HO639
            clear HO645
            clear HO652
            clear HO659
            clear HO667
            clear BK630
            clear BK631
            clear BK653
            clear BK660
            clear HB
            have HO639 := n0_
            have HO645 := n1_
            have HO652 := n2_
            have HO659 := n3_
            have HO667 := n4_
            have HO674 := n5_
            have BK630 := n6_
            have BK631 := n7_
            have BK653 := n8_
            have BK660 := n9_
            have HB := n10_
            clear n0_ n1_ n2_ n3_ n4_ n5_ n6_ n7_ n8_ n9_ n10_
            (try clear hb)
            (try clear hb2)
            (try clear hk)
            (try clear hi)
            (try clear ho0)
            obtain ⟨Ao68, co68, eo68⟩ := Kd.R_slice HO674.out
            (first | subst eo68 | (injection eo68 with f1_ f2_ f3_; have f4_ := f1_.symm; have f5_ := f3_.symm; clear f1_ f2_ f3_; subst f4_; subst f5_))
            refine hK.out _ _ ⟨(blk_cell BK660.out 0).trans rfl, (blk_cell BK660.out 1).trans rfl, (blk_cell BK660.out 2).trans rfl, (blk_cell BK660.out 3).trans rfl, (blk_cell BK631.out 0).trans rfl, (blk_cell BK631.out 1).trans rfl, (blk_cell BK631.out 2).trans rfl, (blk_cell BK631.out 3).trans rfl⟩ (fun hHeld => ?_)
            clear hK K
            refine norm_ (a' := ?_) ?_ ?_
            rotate_left
            · show Act.put _ (some 42) _ = _
              simp only [Act.put, List.setIfInBounds_toArray, List.set_cons_zero, List.set_cons_succ, i64_w, i32_w]
              rfl
            refine one_ (i := 3) (N := some 43) #[true, true, true, true, false] rfl rfl (by kernel_rfl) (by decide) (fun K hK => ?_)
            refine goes_ Try.func52 (by kernel_rfl) rfl #[.agg #[.int .i8 t654, .int .i8 t655, .int .i8 t656, .slice Ao59 t657.length co59], .agg #[.int .i8 t669, .int .i8 t670, .int .i8 t671, .slice Ao68 t672.length co68]] (by rfl) rfl rfl (by (try simp only [List.map_toArray, List.map_cons, List.map_nil]); first | done | rfl | (simp only [List.length_drop, List.length_take]; rfl)) ?_
            with_reducible refine (laws_eqPattern.calls k t654 t655 t656 _ _ t657 t669 t670 t671 _ _ t672 true _ ?side1 ?side2 ?side3 ?side4 A30.out).mono ?_
            (case side1 => repeat (first | exact (Kd.R_reads' HO659.out).2.2 | (with_reducible refine Kd.C_alloc ?_ _) | (with_reducible refine Kd.C_drewN ?_ _) | (with_reducible refine Kd.C_drew ?_)))
            (case side2 => exact (Kd.R_reads' HO659.out).2.1)
            (case side3 => repeat (first | exact (Kd.R_reads' HO674.out).2.2 | (with_reducible refine Kd.C_alloc ?_ _) | (with_reducible refine Kd.C_drewN ?_ _) | (with_reducible refine Kd.C_drew ?_)))
            (case side4 => exact (Kd.R_reads' HO674.out).2.1)
            rintro e w69 ⟨rfl, hb⟩
            refine ⟨_, rfl, ?_⟩
            have n0_ := Aside0.mk (Kd.R_below (by (with_reducible repeat (first | apply Kd.R_alloc | apply Kd.R_drewN | apply Kd.R_drew)); exact HO639.out) hb)
            have n1_ := Aside0.mk (Kd.R_below (by (with_reducible repeat (first | apply Kd.R_alloc | apply Kd.R_drewN | apply Kd.R_drew)); exact HO645.out) hb)
            have n2_ := Aside0.mk (Kd.R_below (by (with_reducible repeat (first | apply Kd.R_alloc | apply Kd.R_drewN | apply Kd.R_drew)); exact HO652.out) hb)
            have n3_ := Aside0.mk (Kd.R_below (by (with_reducible repeat (first | apply Kd.R_alloc | apply Kd.R_drewN | apply Kd.R_drew)); exact HO659.out) hb)
            have n4_ := Aside0.mk (Kd.R_below (by (with_reducible repeat (first | apply Kd.R_alloc | apply Kd.R_drewN | apply Kd.R_drew)); exact HO667.out) hb)
            have n5_ := Aside0.mk (Kd.R_below (by (with_reducible repeat (first | apply Kd.R_alloc | apply Kd.R_drewN | apply Kd.R_drew)); exact HO674.out) hb)
            have n6_ := Aside0.mk (blk_below (g := gb630) (o := .cells #[.int .i8 a0_0, .int .i8 a0_1, .int .i8 a0_2, .slice A0_3 l0_3.length c0_3] 64 (0, 0)) (by (with_reducible repeat (first | refine blk_drewN ?_ _ | refine blk_drew ?_ | refine blk_alloc ?_ _)); exact BK630.out) hb)
            have n7_ := Aside0.mk (blk_below (g := gb631) (o := .cells #[.int .i8 a1_0, .int .i8 a1_1, .int .i8 a1_2, .slice A1_3 l1_3.length c1_3] 64 (0, 0)) (by (with_reducible repeat (first | refine blk_drewN ?_ _ | refine blk_drew ?_ | refine blk_alloc ?_ _)); exact BK631.out) hb)
            have n8_ := Aside0.mk (blk_below (g := gb653) (o := .cells #[.int .i8 t647, .int .i8 t648, .int .i8 t649, .slice Ao51 t650.length co51] 68 (0, 0)) (by (with_reducible repeat (first | refine blk_drewN ?_ _ | refine blk_drew ?_ | refine blk_alloc ?_ _)); exact BK653.out) hb)
            have n9_ := Aside0.mk (blk_below (g := gb660) (o := .cells #[.int .i8 t654, .int .i8 t655, .int .i8 t656, .slice Ao59 t657.length co59] 68 (0, 0)) (by (with_reducible repeat (first | refine blk_drewN ?_ _ | refine blk_drew ?_ | refine blk_alloc ?_ _)); exact BK660.out) hb)
            have n10_ := Aside0.mk (below_step (by repeat (first | (with_reducible first | exact HB.out | apply below_alloc | apply pw_below_drewN | apply below_drew1 | refine below_set ?_ GE630.out | refine below_set ?_ GE631.out | refine below_set ?_ GE653.out | refine below_set ?_ GE660.out) | exact HB.out)) hb)
            clear HO639
            clear HO645
            clear HO652
            clear HO659
            clear HO667
            clear HO674
            clear BK630
            clear BK631
            clear BK653
            clear BK660
            clear HB
            have HO639 := n0_
            have HO645 := n1_
            have HO652 := n2_
            have HO659 := n3_
            have HO667 := n4_
            have HO674 := n5_
            have BK630 := n6_
            have BK631 := n7_
            have BK653 := n8_
            have BK660 := n9_
            have HB := n10_
            clear n0_ n1_ n2_ n3_ n4_ n5_ n6_ n7_ n8_ n9_ n10_
            (try clear hb)
            (try clear hb2)
            (try clear hk)
            (try clear hi)
            refine hK.out _ _ ⟨(blk_cell BK660.out 0).trans rfl, (blk_cell BK660.out 1).trans rfl, (blk_cell BK660.out 2).trans rfl, (blk_cell BK660.out 3).trans rfl, (blk_cell BK631.out 0).trans rfl, (blk_cell BK631.out 1).trans rfl, (blk_cell BK631.out 2).trans rfl, (blk_cell BK631.out 3).trans rfl⟩ (fun hHeld => ?_)
            clear hK K
            refine norm_ (a' := ?_) ?_ ?_
            rotate_left
            · show Act.put _ (some 43) _ = _
              simp only [Act.put, List.setIfInBounds_toArray, List.set_cons_zero, List.set_cons_succ, i64_w, i32_w]
              rfl
            refine pure_ (i := 4) (N := some 44) (v := ?_) (a' := ?_) #[true, true, true, true, true] rfl rfl (by kernel_rfl) (fun _ _ _ h => h) (Or.inl ⟨by rfl, ?_⟩) ?_ ?_
            rotate_left
            · intro w'
              go_simp
              with_reducible rfl
            rotate_left
            · simp only [Act.put, List.setIfInBounds_toArray, List.set_cons_zero, List.set_cons_succ, i64_w, i32_w]
              rfl
            refine done_ (by kernel_rfl) ?_
            try go_wp2
            go_ret
            exact ⟨by first | rfl | (simp [errW_none, errW_some] <;> rfl) | (simp [*, errW_none, errW_some] <;> rfl), by repeat (first | (with_reducible first | exact HB.out | apply below_alloc | apply pw_below_drewN | apply below_drew1 | refine below_set ?_ GE630.out | refine below_set ?_ GE631.out | refine below_set ?_ GE653.out | refine below_set ?_ GE660.out) | exact HB.out)⟩
          · replace c31 := Bool.eq_false_iff.mpr c31
            subst c31
            have H1 : (some false) = some true := by rw [if_neg (show ¬ (false = true) by decide)] at H; exact H
            clear H
            have H := H1
            clear H1
            exact absurd (Option.some.inj H) (by decide)
        · replace c28 := Bool.eq_false_iff.mpr c28
          subst c28
          have H1 : (some false) = some true := by rw [if_neg (show ¬ (false = true) by decide)] at H; exact H
          clear H
          have H := H1
          clear H1
          exact absurd (Option.some.inj H) (by decide)

end Go.Proofs.Ytifpaoaipaicbaa.Q
