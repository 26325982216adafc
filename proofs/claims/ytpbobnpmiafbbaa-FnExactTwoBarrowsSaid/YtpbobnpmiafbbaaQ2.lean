-- By a program of this session's, out of the translation (with the kit's print). Lean checks it.
import Derived.Test.YtpbobnpmiafbbaaQ0
import Derived.Test.YtpbobnpmiafbbaaQ1
namespace Go.Proofs.Ytpbobnpmiafbbaa.Q
open Go.RowKit Go.Proofs.YtpbobnpmiafbbaaW.PrintWords Go.Proofs.YtpbobnpmiafbbaaW.PrintLast Go.Proofs.YtpbobnpmiafbbaaW.PrintMore
attribute [local go_sem] max2_int min2_int max_two min_two max_three min_three max_four min_four
set_option linter.unusedVariables false
set_option linter.unusedSimpArgs false

/-! ### spec_TwoBarrows: function 31 -/
mutual
def spec_TwoBarrows.l0 : Nat → List (S84) → List Int → Int → Int → Int → Option (List Int × Int × Int)
  | 0, _, _, _, _, _ => none
  | k + 1, x0, x6, x7, x8, x9 => if 0 ≤ (IntKind.u64.wrap (x8)) then (if x9 < (shl .i64 1 (IntKind.u64.wrap (x8))) then (spec_TwoBarrows.l1 k x0 x6 x7 x8 x9 (([] : List Int)) 0 (arrZ 2)) else (some (x6, x7, 0))) else (none)
def spec_TwoBarrows.l1 : Nat → List (S84) → List Int → Int → Int → Int → List Int → Int → List Int → Option (List Int × Int × Int)
  | 0, _, _, _, _, _, _, _, _ => none
  | k + 1, x0, x6, x7, x8, x9, x11, x12, x119000 => if x12 < x8 then (if 0 ≤ (IntKind.u64.wrap (wrap64 ((wrap64 (x8 - 1)) - x12))) then (if 0 ≤ (Int.tmod (shr .i64 x9 (IntKind.u64.wrap (wrap64 ((wrap64 (x8 - 1)) - x12)))) 2) then (if (Int.tmod (shr .i64 x9 (IntKind.u64.wrap (wrap64 ((wrap64 (x8 - 1)) - x12)))) 2) < 2 then (if (Int.tmod (shr .i64 x9 (IntKind.u64.wrap (wrap64 ((wrap64 (x8 - 1)) - x12)))) 2) < (x119000.length : Int) then (if 0 ≤ x12 then (if x12 < (x0.length : Int) then ((spec_l05Weight.f ((rd_T84 x0 x12).f0) ((rd_T84 x0 x12).f1) ((rd_T84 x0 x12).f2) ((rd_T84 x0 x12).f3)).bind fun t123 => (if x11.length < 17592186044416 then (spec_TwoBarrows.l1 k x0 x6 x7 x8 x9 (x11 ++ [Int.tmod (shr .i64 x9 (IntKind.u64.wrap (wrap64 ((wrap64 (x8 - 1)) - x12)))) 2]) (wrap64 (x12 + 1)) (x119000.set ((Int.tmod (shr .i64 x9 (IntKind.u64.wrap (wrap64 ((wrap64 (x8 - 1)) - x12)))) 2) : Int).toNat (wrap64 ((rd x119000 (Int.tmod (shr .i64 x9 (IntKind.u64.wrap (wrap64 ((wrap64 (x8 - 1)) - x12)))) 2)) + t123)))) else (none))) else (none)) else (none)) else (none)) else (none)) else (none)) else (none)) else (if 0 < 2 then (if 0 < (x119000.length : Int) then (if 1 < 2 then (if 1 < (x119000.length : Int) then ((spec_l00Max.f (rd x119000 0) (rd x119000 1)).bind fun t128 => (if x7 < 0 then (spec_TwoBarrows.l0 k x0 x11 t128 x8 (wrap64 (x9 + 1))) else (if t128 < x7 then (spec_TwoBarrows.l0 k x0 x11 t128 x8 (wrap64 (x9 + 1))) else (spec_TwoBarrows.l0 k x0 x6 x7 x8 (wrap64 (x9 + 1)))))) else (none)) else (none)) else (none)) else (none))
end
def spec_TwoBarrows.f (k : Nat) (l0 : List (S84)) : Option (List Int × Int × Int) := (spec_l05Heavy.f k l0).bind fun t111 => (if t111 = 0 then (spec_TwoBarrows.l0 k l0 (([] : List Int)) (-1) (l0.length : Int) 0) else (some ((([] : List Int)), 0, t111)))
theorem spec_TwoBarrows.mono_l : ∀ k, (∀ y0 y1 y2 y3 y4, LeO (spec_TwoBarrows.l0 k y0 y1 y2 y3 y4) (spec_TwoBarrows.l0 (k + 1) y0 y1 y2 y3 y4)) ∧ (∀ y0 y1 y2 y3 y4 y5 y6 y7, LeO (spec_TwoBarrows.l1 k y0 y1 y2 y3 y4 y5 y6 y7) (spec_TwoBarrows.l1 (k + 1) y0 y1 y2 y3 y4 y5 y6 y7))
  | 0 => ⟨fun _ _ _ _ _ r h => by simp [spec_TwoBarrows.l0] at h, fun _ _ _ _ _ _ _ _ r h => by simp [spec_TwoBarrows.l1] at h⟩
  | k + 1 => by
    obtain ⟨ih0, ih1⟩ := spec_TwoBarrows.mono_l k
    refine ⟨?_, ?_⟩
    · intro y0 y1 y2 y3 y4
      unfold spec_TwoBarrows.l0
      repeat' first
      | (with_reducible exact ih0 _ _ _ _ _)
      | (with_reducible exact ih1 _ _ _ _ _ _ _ _)
      | (with_reducible exact spec_l05Heavy.mono _ _)
      | (with_reducible exact LeO.refl _)
      | (with_reducible exact LeO.none _)
      | (with_reducible refine LeO.ite ?_ ?_)
      | (with_reducible refine LeO.bind ?_ (fun _ => ?_))
      | exact ih0 _ _ _ _ _
      | exact ih1 _ _ _ _ _ _ _ _
      | exact spec_l05Heavy.mono _ _
      | exact LeO.none _
      | refine LeO.ite ?_ ?_
      | refine LeO.bind ?_ (fun _ => ?_)
    · intro y0 y1 y2 y3 y4 y5 y6 y7
      unfold spec_TwoBarrows.l1
      repeat' first
      | (with_reducible exact ih0 _ _ _ _ _)
      | (with_reducible exact ih1 _ _ _ _ _ _ _ _)
      | (with_reducible exact spec_l05Heavy.mono _ _)
      | (with_reducible exact LeO.refl _)
      | (with_reducible exact LeO.none _)
      | (with_reducible refine LeO.ite ?_ ?_)
      | (with_reducible refine LeO.bind ?_ (fun _ => ?_))
      | exact ih0 _ _ _ _ _
      | exact ih1 _ _ _ _ _ _ _ _
      | exact spec_l05Heavy.mono _ _
      | exact LeO.none _
      | refine LeO.ite ?_ ?_
      | refine LeO.bind ?_ (fun _ => ?_)
theorem spec_TwoBarrows.mono : ∀ a0 k, LeO (spec_TwoBarrows.f k a0) (spec_TwoBarrows.f (k + 1) a0) := by
  intro a0 k
  obtain ⟨ih0, ih1⟩ := spec_TwoBarrows.mono_l k
  unfold spec_TwoBarrows.f
  repeat' first
      | (with_reducible exact ih0 _ _ _ _ _)
      | (with_reducible exact ih1 _ _ _ _ _ _ _ _)
      | (with_reducible exact spec_l05Heavy.mono _ _)
      | (with_reducible exact LeO.refl _)
      | (with_reducible exact LeO.none _)
      | (with_reducible refine LeO.ite ?_ ?_)
      | (with_reducible refine LeO.bind ?_ (fun _ => ?_))
      | exact ih0 _ _ _ _ _
      | exact ih1 _ _ _ _ _ _ _ _
      | exact spec_l05Heavy.mono _ _
      | exact LeO.none _
      | refine LeO.ite ?_ ?_
      | refine LeO.bind ?_ (fun _ => ?_)
def spec_TwoBarrows.T16 : Bool × List (List Nat × List Nat) := (true, [([], []), ([0], [0]), ([1], [1]), ([], []), ([], []), ([3, 4], [3, 4]), ([5], [5]), ([6], [6]), ([2, 7], [2, 7]), ([0, 0, 1, 2, 3, 4, 5, 6, 7, 8], [0]), ([9, 8, 7, 0, 1, 2, 3, 4, 5, 6, 7, 8], [8, 9])])
def spec_TwoBarrows.B16 : List Nat := [0, 1, 3, 0, 0, 24, 56, 120, 255, 511, 1023]
theorem spec_TwoBarrows.tab16 : rtab .any (opsOf Try.f31 16) = spec_TwoBarrows.T16 := by kernel_rfl
theorem spec_TwoBarrows.bits16 : waitsOk spec_TwoBarrows.T16.2 spec_TwoBarrows.B16 = true := by kernel_rfl
set_option maxHeartbeats 8000000 in
set_option maxRecDepth 100000 in
theorem spec_TwoBarrows.calls (k : Nat) (A0 : Option Addr) (c0 : Nat) (l0 : List (S84)) (r1 : List Int) (r2 : Int) (r3 : Int) (w : World) (hr0 : Kd.C k84 w A0 l0.length l0) (hc0 : l0.length ≤ c0) (h : spec_TwoBarrows.f k l0 = some (r1, r2, r3)) :
    Calls Try.prog 31 #[.slice A0 l0.length c0] w fun e w' => ∃ v0_ : Value, e = .returned (.tuple #[v0_, .int .i64 r2, .int .i64 r3]) ∧ Kd.R (Kd.int .i64) 2 w' w.heap.size (fun _ => True) v0_ r1 ∧ Below w.heap.size w w' := by
  have hu81 := Try.underlying81
  have hu84 := Try.underlying84
  have HR0 := Aside0.mk hr0
  have HC0 := Aside0.mk hc0
  clear hr0 hc0
  have HB := Aside0.mk (Below.refl w.heap.size w)
  have H : ((spec_l05Heavy.f k l0).bind fun t111 => (if t111 = 0 then (spec_TwoBarrows.l0 k l0 (([] : List Int)) (-1) (l0.length : Int) 0) else (some ((([] : List Int)), 0, t111)))) = some (r1, r2, r3) := h
  clear h
  replace H := Option.bind_eq_some_iff.mp H
  obtain ⟨t111, A20, H⟩ := H
  replace H : (if t111 = 0 then (spec_TwoBarrows.l0 k l0 (([] : List Int)) (-1) (l0.length : Int) 0) else (some ((([] : List Int)), 0, t111))) = some (r1, r2, r3) := H
  have A2 := Aside0.mk A20
  clear A20
  by_cases c3 : t111 = 0
  · rw [if_pos c3] at H
    have c3b0 : (t111 == 0) = true := beq_iff_eq.mpr c3
    have c3b1 : (t111 != 0) = false := bne_eq_false_iff_eq.mpr c3
    clear c3
    obtain ⟨y115, hy115⟩ : ∃ y_ : List Int, y_ = (([] : List Int)) := ⟨_, rfl⟩
    replace H : (spec_TwoBarrows.l0 k l0 y115 (-1) (l0.length : Int) 0) = some (r1, r2, r3) := by first | (rw [hy115]; with_reducible exact H) | (have H2_ := (Option.bind_some _ _).symm.trans H; rw [hy115]; with_reducible exact H2_) | (have H2_ := (Option.bind_some _ _).symm.trans H; with_reducible exact H2_) | with_reducible exact H | (rw [hy115]; exact H) | exact H
    have Ny115 := Aside0.mk hy115
    clear hy115
    have H' := Aside0.mk H
    clear H
    go_enter Try.func31, Try.ntmps31
    go_wp2_with (first | ((with_reducible refine gate_callee (f := 59) rfl ?_); refine goesL_ (some 16) rfl rfl Try.func59 (by kernel_rfl) rfl #[.slice A0 l0.length c0] rfl (by (try simp only [List.map_toArray, List.map_cons, List.map_nil]); first | done | rfl | (simp only [List.length_drop, List.length_take]; rfl)) ?_; (with_reducible refine (spec_l05Heavy.calls k _ _ l0 t111 _ ?side1 ?side2 A2.out).mono ?_); (case side1 => repeat (first | exact HR0.out | (with_reducible refine Kd.C_alloc ?_ _) | (with_reducible refine Kd.C_drewN ?_ _) | (with_reducible refine Kd.C_drew ?_))); (case side2 => exact HC0.out); rintro e w4 ⟨rfl, hb⟩; refine ⟨_, rfl, ?_⟩; have n0_ := Aside0.mk (below_step (by repeat (first | (with_reducible first | exact HB.out | apply below_alloc | apply pw_below_drewN | apply below_drew1) | exact HB.out)) hb); clear HB; have HB := n0_; clear n0_; (try clear hb); (try clear hb2); (try clear hk); (try clear hi)) | ((with_reducible refine gate_dst (N := 21) rfl ?_); refine Kd.R_lit (Kd.int .i64) _ 2 ?hg (N := 21) ?hd (xs := ([] : List Int)) (inner := []) (ok := fun _ => True) (okp := fun _ => True) ?hr ?hp (fun _ hk => hk) trivial (Below.refl _ _) (Nat.le_refl _) (by simp) ?_; (case hd => rfl); (case hg => rfl); (case hr => first | (go_simp; done) | (go_simp; rfl)); (case hp => exact (Reps.none _ _)); intro v116 w5 ho6 hb hg_ hnew_; clear hg_ hnew_; (first | rw [← Ny115.out] at ho6 | (simp only [Int.reduceToNat] at ho6; rw [← Ny115.out] at ho6)); have n0_ := Aside0.mk (Kd.R_lower ho6 (below_size (by repeat (first | (with_reducible first | exact HB.out | apply below_alloc | apply pw_below_drewN | apply below_drew1) | exact HB.out)))); have n1_ := Aside0.mk (below_step (by repeat (first | (with_reducible first | exact HB.out | apply below_alloc | apply pw_below_drewN | apply below_drew1) | exact HB.out)) hb); clear HB; have HO117 := n0_; have HB := n1_; clear n0_ n1_; clear hb ho6))
    go_loopg [6, 7, 9] k (fun kq v6 v7 v9 w' => ∃ (x6_1 : List Int) (x7_1 : Int) (x9_1 : Int), v7 = .int .i64 x7_1 ∧ v9 = .int .i64 x9_1 ∧ Aside0 (spec_TwoBarrows.l0 kq l0 x6_1 x7_1 (l0.length : Int) x9_1 = some (r1, r2, r3)) ∧ Aside0 (kq ≤ k) ∧ Aside0 (Kd.R (Kd.int .i64) 2 w' w.heap.size (fun _ => True) v6 x6_1) ∧ Aside0 (Below w.heap.size w w'))
    case atStart => exact ⟨(y115), ((-1)), (0), (by first | rfl | (simp; done) | (simp [*]; done)), (by first | rfl | (simp; done) | (simp [*]; done)), H', ⟨Nat.le_refl _⟩, ⟨by (with_reducible repeat (first | apply Kd.R_alloc | apply Kd.R_drewN | apply Kd.R_drew)); exact HO117.out⟩, ⟨by repeat (first | (with_reducible first | exact HB.out | apply below_alloc | apply pw_below_drewN | apply below_drew1) | exact HB.out)⟩⟩
    case round =>
      clear H'
      try clear p2
      try clear c3
      try clear c3b0
      try clear c3b1
      try clear c5
      obtain ⟨x6_1, x7_1, x9_1, rfl, rfl, HA, HK1, HO_6, HB⟩ := hrel
      cases gk with
      | zero => exact absurd HA.out (by simp [spec_TwoBarrows.l0])
      | succ k1 =>
        have H := HA.out
        clear HA
        simp only [spec_TwoBarrows.l0] at H
        obtain ⟨ji7, hji7⟩ : ∃ j_ : Int, (IntKind.u64.wrap ((l0.length : Int))) = j_ := ⟨_, rfl⟩
        replace H : (if 0 ≤ (ji7) then (if x9_1 < (shl .i64 1 (ji7)) then (spec_TwoBarrows.l1 k1 l0 x6_1 x7_1 (l0.length : Int) x9_1 (([] : List Int)) 0 (arrZ 2)) else (some (x6_1, x7_1, 0))) else (none)) = some (r1, r2, r3) := by first | (rw [hji7] at H; exact H) | (simp only [hji7] at H ⊢; exact H)
        by_cases c8 : 0 ≤ (ji7)
        · rw [if_pos c8] at H
          have c8b0 := eq_true c8
          have c8b1 : decide (0 ≤ (ji7)) = true := decide_eq_true c8
          clear c8
          obtain ⟨ji9, hji9⟩ : ∃ j_ : Int, (shl .i64 1 (ji7)) = j_ := ⟨_, rfl⟩
          replace H : (if x9_1 < (ji9) then (spec_TwoBarrows.l1 k1 l0 x6_1 x7_1 (l0.length : Int) x9_1 (([] : List Int)) 0 (arrZ 2)) else (some (x6_1, x7_1, 0))) = some (r1, r2, r3) := by first | (rw [hji9] at H; exact H) | (simp only [hji9] at H ⊢; exact H)
          have hji9_ : (IntKind.i64.wrap (1 * 2 ^ min (ji7).toNat 64)) = ji9 := hji9
          have hji9z : (ji7) ≤ 64 → (IntKind.i64.wrap (1 * 2 ^ (ji7).toNat)) = ji9 := shl_small hji9
          have hji9u : (IntKind.i64.wrap (2 ^ min (ji7).toNat 64)) = ji9 := by have h_ := hji9_; rw [Int.one_mul] at h_; exact h_
          have hji9v : (ji7) ≤ 64 → (IntKind.i64.wrap (2 ^ (ji7).toNat)) = ji9 := fun hle_ => by have h_ := hji9z hle_; rw [Int.one_mul] at h_; exact h_
          have hji9y : (wrap64 (1 * 2 ^ min (ji7).toNat 64)) = ji9 := (i64_w _).symm.trans hji9_
          have hji9x : (ji7) ≤ 64 → (wrap64 (1 * 2 ^ (ji7).toNat)) = ji9 := fun h_ => (i64_w _).symm.trans (hji9z h_)
          by_cases c10 : x9_1 < (ji9)
          · rw [if_pos c10] at H
            have c10b0 : decide (x9_1 < (ji9)) = true := decide_eq_true c10
            clear c10
            obtain ⟨y119, hy119⟩ : ∃ y_ : List Int, y_ = (([] : List Int)) := ⟨_, rfl⟩
            replace H : (spec_TwoBarrows.l1 k1 l0 x6_1 x7_1 (l0.length : Int) x9_1 y119 0 (arrZ 2)) = some (r1, r2, r3) := by first | (rw [hy119]; with_reducible exact H) | (have H2_ := (Option.bind_some _ _).symm.trans H; rw [hy119]; with_reducible exact H2_) | (have H2_ := (Option.bind_some _ _).symm.trans H; with_reducible exact H2_) | with_reducible exact H | (rw [hy119]; exact H) | exact H
            have Ny119 := Aside0.mk hy119
            clear hy119
            have H' := Aside0.mk H
            clear H
            go_wp2_with (first | ((with_reducible refine gate_dst (N := 31) rfl ?_); refine arr_build ?hg (N := 31) ?hd (t := 81) ?ho .i64 2 Try.underlying81 (by kernel_rfl) (by kernel_rfl) ?_; (case hd => rfl); (case hg => rfl); (case ho => rfl)) | ((with_reducible refine gate_dst (N := 10) rfl ?_); refine box_event ?hg (N := 10) ?hd (cs := (arrC .i64 (arrZ 2))) (t := 81) ?hr ?_; (case hd => rfl); (case hg => rfl); (case hr => exact arr_alloc rfl .i64 2 (by kernel_rfl)); intro gb118 hg w11 hbox hb; have n0_ := Aside0.mk (Kd.R_below (by (with_reducible repeat (first | apply Kd.R_alloc | apply Kd.R_drewN | apply Kd.R_drew)); exact HO_6.out) hb); have n1_ := Aside0.mk (below_step (by repeat (first | (with_reducible first | exact HB.out | apply below_alloc | apply pw_below_drewN | apply below_drew1) | exact HB.out)) hb); have n2_ := Aside0.mk (hbox); have n3_ := Aside0.mk ((by rw [hg]; exact (below_size (by repeat (first | (with_reducible first | exact HB.out | apply below_alloc | apply pw_below_drewN | apply below_drew1) | exact HB.out))) : w.heap.size ≤ gb118)); have n4_ := Aside0.mk ((by rw [hg]; exact (below_size (by repeat (first | (with_reducible first | exact HB.out | apply below_alloc | apply pw_below_drewN | apply below_drew1) | exact HB.out))) : w.heap.size ≤ gb118)); clear HO_6; clear HB; have HO_6 := n0_; have HB := n1_; have BK118 := n2_; have GW118 := n3_; have GE118 := n4_; clear n0_ n1_ n2_ n3_ n4_; clear hb hbox hg) | ((with_reducible refine gate_store (t := 81) (p := 10) rfl ?_); refine arr_store (p := 10) (v := ?vv_w12) (n := 2) (k := .i64) (g := gb118) (l := (arrZ 2)) (l2 := (arrZ 2)) ?hg ?hn (t := 81) ?ho ?hp ?hv (by (with_reducible repeat (first | refine blk_drewN ?_ _ | refine blk_drew ?_ | refine blk_alloc ?_ _)); exact BK118.out) (by kernel_rfl) (arrZ_length _) (arrZ_length _) ?_; (case ho => rfl); (case hg => rfl); (case hn => rfl); (case hp => rfl); (case hv => rfl); intro w12 hg hx; have n0_ := Aside0.mk (Kd.R_mono (Kd.R_grown (Kd.R_types (by (with_reducible repeat (first | apply Kd.R_alloc | apply Kd.R_drewN | apply Kd.R_drew)); exact HO_6.out) (by (with_reducible repeat (first | refine blk_drewN ?_ _ | refine blk_drew ?_ | refine blk_alloc ?_ _)); exact BK118.out) (by decide)) hg (fun k_ hk e_ => hk.2 (Option.some.inj e_))) (fun _ h_ => h_.1)); have n1_ := Aside0.mk (hx); have n2_ := Aside0.mk (Below.grown (by repeat (first | (with_reducible first | exact HB.out | apply below_alloc | apply pw_below_drewN | apply below_drew1 | refine below_set ?_ GE118.out) | exact HB.out)) hg (below_size (by repeat (first | (with_reducible first | exact HB.out | apply below_alloc | apply pw_below_drewN | apply below_drew1 | refine below_set ?_ GE118.out) | exact HB.out))) (fun k_ e_ => by cases e_; exact GE118.out)); clear HO_6; clear BK118; clear HB; have HO_6 := n0_; have BK118 := n1_; have HB := n2_; clear n0_ n1_ n2_; clear hg hx) | ((with_reducible refine gate_dst (N := 32) rfl ?_); refine Kd.R_lit (Kd.int .i64) _ 2 ?hg (N := 32) ?hd (xs := ([] : List Int)) (inner := []) (ok := fun _ => True) (okp := fun _ => True) ?hr ?hp (fun _ hk => hk) trivial (Below.refl _ _) (Nat.le_refl _) (by simp) ?_; (case hd => rfl); (case hg => rfl); (case hr => first | (go_simp; done) | (go_simp; rfl)); (case hp => exact (Reps.none _ _)); intro v120 w13 ho14 hb hg_ hnew_; clear hg_ hnew_; (first | rw [← Ny119.out] at ho14 | (simp only [Int.reduceToNat] at ho14; rw [← Ny119.out] at ho14)); have n0_ := Aside0.mk (Kd.R_elder' (by (with_reducible repeat (first | apply Kd.R_alloc | apply Kd.R_drewN | apply Kd.R_drew)); exact HO_6.out) (Kd.R_base ho14) hb); have n1_ := Aside0.mk (Kd.R_lower (Kd.R_new' ho14 (Kd.R_lt (by (with_reducible repeat (first | apply Kd.R_alloc | apply Kd.R_drewN | apply Kd.R_drew)); exact HO_6.out))) (below_size (by repeat (first | (with_reducible first | exact HB.out | apply below_alloc | apply pw_below_drewN | apply below_drew1 | refine below_set ?_ GE118.out) | exact HB.out)))); have n2_ := Aside0.mk (blk_below (g := gb118) (o := .cells (arrC .i64 (arrZ 2)) 81 (0, 0)) (by (with_reducible repeat (first | refine blk_drewN ?_ _ | refine blk_drew ?_ | refine blk_alloc ?_ _)); exact BK118.out) hb); have n3_ := Aside0.mk (below_step (by repeat (first | (with_reducible first | exact HB.out | apply below_alloc | apply pw_below_drewN | apply below_drew1 | refine below_set ?_ GE118.out) | exact HB.out)) hb); clear HO_6; clear BK118; clear HB; have HO_6 := n0_; have HO121 := n1_; have BK118 := n2_; have HB := n3_; clear n0_ n1_ n2_ n3_; clear hb ho14))
            go_loopg [11, 12] k1 (fun kq v11 v12 w' => ∃ (x11_2 : List Int) (x12_2 : Int) (x119000_2 : List Int), v12 = .int .i64 x12_2 ∧ Aside0 (spec_TwoBarrows.l1 kq l0 x6_1 x7_1 (l0.length : Int) x9_1 x11_2 x12_2 x119000_2 = some (r1, r2, r3)) ∧ Aside0 (kq ≤ k1) ∧ Aside0 (Kd.R (Kd.int .i64) 2 w' w.heap.size (fun k_ => some k_ ≠ (v11 : Value).ownBlock) u6 x6_1) ∧ Aside0 (Kd.R (Kd.int .i64) 2 w' w.heap.size (fun k_ => some k_ ≠ (u6 : Value).ownBlock) v11 x11_2) ∧ Aside0 (w'.heap[gb118]? = some (.cells (arrC .i64 x119000_2) 81 (0, 0))) ∧ Aside0 (Below w.heap.size w w'))
            case atStart => exact ⟨(y119), (0), ((arrZ 2)), (by first | rfl | (simp; done) | (simp [*]; done)), H', ⟨Nat.le_refl _⟩, ⟨by (with_reducible repeat (first | apply Kd.R_alloc | apply Kd.R_drewN | apply Kd.R_drew)); exact Kd.R_mono HO_6.out (fun _ hk => hk.2)⟩, ⟨by (with_reducible repeat (first | apply Kd.R_alloc | apply Kd.R_drewN | apply Kd.R_drew)); exact Kd.R_mono HO121.out (fun _ hk => hk.2)⟩, ⟨by (with_reducible repeat (first | refine blk_drewN ?_ _ | refine blk_drew ?_ | refine blk_alloc ?_ _)); exact BK118.out⟩, ⟨by repeat (first | (with_reducible first | exact HB.out | apply below_alloc | apply pw_below_drewN | apply below_drew1 | refine below_set ?_ GE118.out) | exact HB.out)⟩⟩
            case round =>
              clear H'
              try clear c1
              try clear p2
              try clear c3
              try clear c3b0
              try clear c3b1
              try clear c5
              try clear p6
              try clear c8
              try clear c8b0
              try clear c8b1
              try clear c10
              try clear c10b0
              try clear p2
              obtain ⟨x11_2, x12_2, x119000_2, rfl, HA, HK2, HO_6, HO_11, BK118, HB⟩ := hrel
              cases gk with
              | zero => exact absurd HA.out (by simp [spec_TwoBarrows.l1])
              | succ k2 =>
                have H := HA.out
                clear HA
                simp only [spec_TwoBarrows.l1] at H
                by_cases c15 : x12_2 < (l0.length : Int)
                · rw [if_pos c15] at H
                  have c15b0 : decide (x12_2 < (l0.length : Int)) = true := decide_eq_true c15
                  clear c15
                  obtain ⟨ji16, hji16⟩ : ∃ j_ : Int, (IntKind.u64.wrap (wrap64 ((wrap64 ((l0.length : Int) - 1)) - x12_2))) = j_ := ⟨_, rfl⟩
                  replace H : (if 0 ≤ (ji16) then (if 0 ≤ (Int.tmod (shr .i64 x9_1 (ji16)) 2) then (if (Int.tmod (shr .i64 x9_1 (ji16)) 2) < 2 then (if (Int.tmod (shr .i64 x9_1 (ji16)) 2) < (x119000_2.length : Int) then (if 0 ≤ x12_2 then (if x12_2 < (l0.length : Int) then ((spec_l05Weight.f ((rd_T84 l0 x12_2).f0) ((rd_T84 l0 x12_2).f1) ((rd_T84 l0 x12_2).f2) ((rd_T84 l0 x12_2).f3)).bind fun t123 => (if x11_2.length < 17592186044416 then (spec_TwoBarrows.l1 k2 l0 x6_1 x7_1 (l0.length : Int) x9_1 (x11_2 ++ [Int.tmod (shr .i64 x9_1 (ji16)) 2]) (wrap64 (x12_2 + 1)) (x119000_2.set ((Int.tmod (shr .i64 x9_1 (ji16)) 2) : Int).toNat (wrap64 ((rd x119000_2 (Int.tmod (shr .i64 x9_1 (ji16)) 2)) + t123)))) else (none))) else (none)) else (none)) else (none)) else (none)) else (none)) else (none)) = some (r1, r2, r3) := by first | (rw [hji16] at H; exact H) | (simp only [hji16] at H ⊢; exact H)
                  by_cases c17 : 0 ≤ (ji16)
                  · rw [if_pos c17] at H
                    have c17b0 := eq_true c17
                    have c17b1 : decide (0 ≤ (ji16)) = true := decide_eq_true c17
                    clear c17
                    obtain ⟨ji18, hji18⟩ : ∃ j_ : Int, (shr .i64 x9_1 (ji16)) = j_ := ⟨_, rfl⟩
                    replace H : (if 0 ≤ (Int.tmod (ji18) 2) then (if (Int.tmod (ji18) 2) < 2 then (if (Int.tmod (ji18) 2) < (x119000_2.length : Int) then (if 0 ≤ x12_2 then (if x12_2 < (l0.length : Int) then ((spec_l05Weight.f ((rd_T84 l0 x12_2).f0) ((rd_T84 l0 x12_2).f1) ((rd_T84 l0 x12_2).f2) ((rd_T84 l0 x12_2).f3)).bind fun t123 => (if x11_2.length < 17592186044416 then (spec_TwoBarrows.l1 k2 l0 x6_1 x7_1 (l0.length : Int) x9_1 (x11_2 ++ [Int.tmod (ji18) 2]) (wrap64 (x12_2 + 1)) (x119000_2.set ((Int.tmod (ji18) 2) : Int).toNat (wrap64 ((rd x119000_2 (Int.tmod (ji18) 2)) + t123)))) else (none))) else (none)) else (none)) else (none)) else (none)) else (none)) = some (r1, r2, r3) := by first | (rw [hji18] at H; exact H) | (simp only [hji18] at H ⊢; exact H)
                    have hji18_ : (x9_1 / 2 ^ min (ji16).toNat 64) = ji18 := hji18
                    have hji18z : (ji16) ≤ 64 → (x9_1 / 2 ^ (ji16).toNat) = ji18 := shr_small hji18
                    obtain ⟨ji19, hji19⟩ : ∃ j_ : Int, (Int.tmod (ji18) 2) = j_ := ⟨_, rfl⟩
                    replace H : (if 0 ≤ (ji19) then (if (ji19) < 2 then (if (ji19) < (x119000_2.length : Int) then (if 0 ≤ x12_2 then (if x12_2 < (l0.length : Int) then ((spec_l05Weight.f ((rd_T84 l0 x12_2).f0) ((rd_T84 l0 x12_2).f1) ((rd_T84 l0 x12_2).f2) ((rd_T84 l0 x12_2).f3)).bind fun t123 => (if x11_2.length < 17592186044416 then (spec_TwoBarrows.l1 k2 l0 x6_1 x7_1 (l0.length : Int) x9_1 (x11_2 ++ [ji19]) (wrap64 (x12_2 + 1)) (x119000_2.set ((ji19) : Int).toNat (wrap64 ((rd x119000_2 (ji19)) + t123)))) else (none))) else (none)) else (none)) else (none)) else (none)) else (none)) = some (r1, r2, r3) := by first | (rw [hji19] at H; exact H) | (simp only [hji19] at H ⊢; exact H)
                    by_cases c20 : 0 ≤ (ji19)
                    · rw [if_pos c20] at H
                      have c20b0 : decide (0 ≤ (ji19)) = true := decide_eq_true c20
                      clear c20
                      by_cases c21 : (ji19) < 2
                      · rw [if_pos c21] at H
                        have c21b0 : decide ((ji19) < 2) = true := decide_eq_true c21
                        clear c21
                        by_cases c23 : (ji19) < (x119000_2.length : Int)
                        · rw [if_pos c23] at H
                          have c23b0 := eq_true c23
                          have c23b1 : decide ((ji19) < (x119000_2.length : Int)) = true := decide_eq_true c23
                          clear c23
                          by_cases c24 : 0 ≤ x12_2
                          · rw [if_pos c24] at H
                            have c24b0 : decide (0 ≤ x12_2) = true := decide_eq_true c24
                            clear c24
                            by_cases c25 : x12_2 < (l0.length : Int)
                            · rw [if_pos c25] at H
                              have c25b0 : decide (x12_2 < (l0.length : Int)) = true := decide_eq_true c25
                              clear c25
                              replace H := Option.bind_eq_some_iff.mp H
                              obtain ⟨t123, A260, H⟩ := H
                              replace H : (if x11_2.length < 17592186044416 then (spec_TwoBarrows.l1 k2 l0 x6_1 x7_1 (l0.length : Int) x9_1 (x11_2 ++ [ji19]) (wrap64 (x12_2 + 1)) (x119000_2.set ((ji19) : Int).toNat (wrap64 ((rd x119000_2 (ji19)) + t123)))) else (none)) = some (r1, r2, r3) := H
                              have A26 := Aside0.mk A260
                              clear A260
                              obtain ⟨y124, hy124⟩ : ∃ y_ : List Int, y_ = (x119000_2.set ((ji19) : Int).toNat (wrap64 ((rd x119000_2 (ji19)) + t123))) := ⟨_, rfl⟩
                              replace H : (if x11_2.length < 17592186044416 then (spec_TwoBarrows.l1 k2 l0 x6_1 x7_1 (l0.length : Int) x9_1 (x11_2 ++ [ji19]) (wrap64 (x12_2 + 1)) y124) else (none)) = some (r1, r2, r3) := by first | (rw [hy124]; with_reducible exact H) | (have H2_ := (Option.bind_some _ _).symm.trans H; rw [hy124]; with_reducible exact H2_) | (have H2_ := (Option.bind_some _ _).symm.trans H; with_reducible exact H2_) | with_reducible exact H | (rw [hy124]; exact H) | exact H
                              have Ny124 := Aside0.mk hy124
                              clear hy124
                              by_cases c28 : x11_2.length < 17592186044416
                              · rw [if_pos c28] at H
                                have LMc28 := Aside0.mk c28
                                clear c28
                                obtain ⟨y125, hy125⟩ : ∃ y_ : List Int, y_ = (x11_2 ++ [ji19]) := ⟨_, rfl⟩
                                replace H : (spec_TwoBarrows.l1 k2 l0 x6_1 x7_1 (l0.length : Int) x9_1 y125 (wrap64 (x12_2 + 1)) y124) = some (r1, r2, r3) := by first | (rw [hy125]; with_reducible exact H) | (have H2_ := (Option.bind_some _ _).symm.trans H; rw [hy125]; with_reducible exact H2_) | (have H2_ := (Option.bind_some _ _).symm.trans H; with_reducible exact H2_) | with_reducible exact H | (rw [hy125]; exact H) | exact H
                                have Ny125 := Aside0.mk hy125
                                clear hy125
                                have H' := Aside0.mk H
                                clear H
                                try go_wp2
                                have n0_ := Aside0.mk (Kd.R_drew HO_6.out)
                                have n1_ := Aside0.mk (Kd.R_drew HO_11.out)
                                have n2_ := Aside0.mk (blk_drew BK118.out)
                                have n3_ := Aside0.mk (below_drew1 HB.out)
                                clear HO_6
                                clear HO_11
                                clear BK118
                                clear HB
                                have HO_6 := n0_
                                have HO_11 := n1_
                                have BK118 := n2_
                                have HB := n3_
                                clear n0_ n1_ n2_ n3_
                                have p22 : 0 ≤ ((ji19) : Int) := of_decide_eq_true (by first | (with_reducible assumption) | assumption)
                                have q22 : ((ji19) : Int) < (2 : Int) := of_decide_eq_true (by first | (with_reducible assumption) | assumption)
                                replace p22 := eq_true p22
                                replace q22 := eq_true q22
                                have p122 : 0 ≤ (x12_2 : Int) := of_decide_eq_true (by first | (with_reducible assumption) | assumption)
                                have q122 : x12_2 < (l0.length : Int) := of_decide_eq_true (by first | (with_reducible assumption) | assumption)
                                obtain ⟨ad122, e122, hx122_0, hx122_1, hx122_2, hx122_3⟩ := at_T84 HR0.out x12_2 p122 q122
                                have hw122_3 := hx122_3
                                have hw122_2 := hx122_2
                                have hw122_1 := hx122_1
                                have hw122_0 := hx122_0
                                cases e122
                                replace hx122_0 := (HB.out.cell (World.block_lt_of_cell? w _ hx122_0)).trans hx122_0
                                replace hx122_1 := (HB.out.cell (World.block_lt_of_cell? w _ hx122_1)).trans hx122_1
                                replace hx122_2 := (HB.out.cell (World.block_lt_of_cell? w _ hx122_2)).trans hx122_2
                                replace hx122_3 := (HB.out.cell (World.block_lt_of_cell? w _ hx122_3)).trans hx122_3
                                replace p122 := eq_true p122
                                replace q122 := eq_true q122
                                refine start_ (n := 11) (S := fun w' => w'.cell? ⟨gb118, (ji19).toNat, none⟩ = some (.int .i64 (rd x119000_2 (ji19))) ∧ w'.cell? (ad122.add ((x12_2).toNat * 4)) = some (.int .i8 ((rd_T84 l0 x12_2).f0)) ∧ w'.cell? ⟨(ad122.add ((x12_2).toNat * 4)).block, (ad122.add ((x12_2).toNat * 4)).off + 1, none⟩ = some (.int .i8 ((rd_T84 l0 x12_2).f1)) ∧ w'.cell? ⟨(ad122.add ((x12_2).toNat * 4)).block, (ad122.add ((x12_2).toNat * 4)).off + 2, none⟩ = some (.int .i8 ((rd_T84 l0 x12_2).f2)) ∧ w'.cell? ⟨(ad122.add ((x12_2).toNat * 4)).block, (ad122.add ((x12_2).toNat * 4)).off + 3, none⟩ = some (.int .i8 ((rd_T84 l0 x12_2).f3))) (ds := [10]) #[false, false, false, false, false, false, false, false, false, false, false] (by kernel_rfl) rfl rfl ⟨(arr_cell (by (with_reducible repeat (first | refine blk_drewN ?_ _ | refine blk_drew ?_ | refine blk_alloc ?_ _)); exact BK118.out) (ji19) _ (by have h0_ : (0 : Int) ≤ (ji19) := of_decide_eq_true (by first | (with_reducible assumption) | assumption); omega) (of_decide_eq_true (by first | (with_reducible assumption) | assumption))), ((HB.out.cell (World.block_lt_of_cell? w _ hw122_0)).trans hw122_0), ((HB.out.cell (World.block_lt_of_cell? w _ hw122_1)).trans hw122_1), ((HB.out.cell (World.block_lt_of_cell? w _ hw122_2)).trans hw122_2), ((HB.out.cell (World.block_lt_of_cell? w _ hw122_3)).trans hw122_3)⟩ (fun hHeld => ?_); refine with_tabW spec_TwoBarrows.tab16 spec_TwoBarrows.bits16 (fun HT_ HW_ => ?_)
                                generalize wr.drew = w29 at HO_6 HO_11 BK118 HB hx122_0 hx122_1 hx122_2 hx122_3 hHeld ⊢
                                refine pure_ (i := 0) (N := some 46) (v := ?_) (a' := ?_) #[true, false, false, false, false, false, false, false, false, false, false] rfl rfl (any_of HT_.out (by kernel_rfl)) (fun _ _ _ h => h) (Or.inl ⟨by rfl, ?_⟩) ?_ ?_
                                rotate_left
                                · intro w'
                                  go_simp
                                  with_reducible rfl
                                rotate_left
                                · simp only [Act.put, List.setIfInBounds_toArray, List.set_cons_zero, List.set_cons_succ, i64_w, i32_w]
                                  rfl
                                refine pure_ (i := 1) (N := some 47) (v := ?_) (a' := ?_) #[true, true, false, false, false, false, false, false, false, false, false] rfl rfl (any_of HT_.out (by kernel_rfl)) (fun _ _ _ h => h) (Or.inl ⟨by rfl, ?_⟩) ?_ ?_
                                rotate_left
                                · intro w'
                                  go_simp
                                  with_reducible rfl
                                rotate_left
                                · simp only [Act.put, List.setIfInBounds_toArray, List.set_cons_zero, List.set_cons_succ, i64_w, i32_w]
                                  rfl
                                refine pure_ (i := 3) (N := some 49) (v := ?_) (a' := ?_) #[true, true, false, true, false, false, false, false, false, false, false] rfl rfl (any_of HT_.out (by kernel_rfl)) (fun _ _ _ h => h) (Or.inl ⟨by rfl, ?_⟩) ?_ ?_
                                rotate_left
                                · intro w'
                                  go_simp
                                  with_reducible rfl
                                rotate_left
                                · simp only [Act.put, List.setIfInBounds_toArray, List.set_cons_zero, List.set_cons_succ, i64_w, i32_w]
                                  rfl
                                refine pure_ (i := 4) (N := some 50) (v := ?_) (a' := ?_) #[true, true, false, true, true, false, false, false, false, false, false] rfl rfl (any_of HT_.out (by kernel_rfl)) (fun _ _ _ h => h) (Or.inl ⟨by rfl, ?_⟩) ?_ ?_
                                rotate_left
                                · intro w'
                                  go_simp
                                  with_reducible rfl
                                rotate_left
                                · simp only [Act.put, List.setIfInBounds_toArray, List.set_cons_zero, List.set_cons_succ, i64_w, i32_w]
                                  rfl
                                refine pure_ (i := 5) (N := some 51) (v := ?_) (a' := ?_) #[true, true, false, true, true, true, false, false, false, false, false] rfl rfl (any_of HT_.out (by kernel_rfl)) (fun _ _ _ h => h) (Or.inl ⟨by rfl, ?_⟩) ?_ ?_
                                rotate_left
                                · intro w'
                                  go_simp
                                  with_reducible rfl
                                rotate_left
                                · simp only [Act.put, List.setIfInBounds_toArray, List.set_cons_zero, List.set_cons_succ, i64_w, i32_w]
                                  rfl
                                refine take_ (i := 2) (N := some 48) (v := ?_) (a' := ?_) #[true, true, true, true, true, true, false, false, false, false, false] rfl rfl (take_ofW HT_.out HW_.out (by kernel_rfl)) (fun _ _ _ h => h) (Or.inl ⟨by rfl, ?_⟩) hHeld ?_ ?_
                                rotate_left
                                · rintro w' ⟨s0, s1, s2, s3, s4⟩
                                  go_simp
                                  with_reducible rfl
                                rotate_left
                                · simp only [Act.put, List.setIfInBounds_toArray, List.set_cons_zero, List.set_cons_succ, i64_w, i32_w]
                                  rfl
                                refine take_ (i := 6) (N := some 52) (v := ?_) (a' := ?_) #[true, true, true, true, true, true, true, false, false, false, false] rfl rfl (take_ofW HT_.out HW_.out (by kernel_rfl)) (fun _ _ _ h => h) (Or.inl ⟨by rfl, ?_⟩) hHeld ?_ ?_
                                rotate_left
                                · rintro w' ⟨s0, s1, s2, s3, s4⟩
                                  go_simp
                                  with_reducible rfl
                                rotate_left
                                · simp only [Act.put, List.setIfInBounds_toArray, List.set_cons_zero, List.set_cons_succ, i64_w, i32_w]
                                  rfl
                                refine one_ (i := 7) (N := some 53) #[true, true, true, true, true, true, true, true, false, false, false] rfl rfl (one_of HT_.out (by kernel_rfl)) (by decide) (fun K hK => ?_)
                                refine goes_ Try.func60 (by kernel_rfl) rfl #[.agg #[.int .i8 ((rd_T84 l0 x12_2).f0), .int .i8 ((rd_T84 l0 x12_2).f1), .int .i8 ((rd_T84 l0 x12_2).f2), .int .i8 ((rd_T84 l0 x12_2).f3)]] (by rfl) rfl rfl (by (try simp only [List.map_toArray, List.map_cons, List.map_nil]); first | done | rfl | (simp only [List.length_drop, List.length_take]; rfl)) ?_
                                with_reducible refine (spec_l05Weight.calls ((rd_T84 l0 x12_2).f0) ((rd_T84 l0 x12_2).f1) ((rd_T84 l0 x12_2).f2) ((rd_T84 l0 x12_2).f3) t123 _ A26.out).mono ?_
                                rintro e w31 ⟨rfl, hb⟩
                                refine ⟨_, rfl, ?_⟩
                                have n0_ := Aside0.mk (Kd.R_below (by (with_reducible repeat (first | apply Kd.R_alloc | apply Kd.R_drewN | apply Kd.R_drew)); exact HO_6.out) hb)
                                have n1_ := Aside0.mk (Kd.R_below (by (with_reducible repeat (first | apply Kd.R_alloc | apply Kd.R_drewN | apply Kd.R_drew)); exact HO_11.out) hb)
                                have n2_ := Aside0.mk (blk_below (g := gb118) (o := .cells (arrC .i64 x119000_2) 81 (0, 0)) (by (with_reducible repeat (first | refine blk_drewN ?_ _ | refine blk_drew ?_ | refine blk_alloc ?_ _)); exact BK118.out) hb)
                                have n3_ := Aside0.mk (below_step (by repeat (first | (with_reducible first | exact HB.out | apply below_alloc | apply pw_below_drewN | apply below_drew1 | refine below_set ?_ GE118.out) | exact HB.out)) hb)
                                clear HO_6
                                clear HO_11
                                clear BK118
                                clear HB
                                have HO_6 := n0_
                                have HO_11 := n1_
                                have BK118 := n2_
                                have HB := n3_
                                clear n0_ n1_ n2_ n3_
                                (try clear hb)
                                (try clear hb2)
                                (try clear hk)
                                (try clear hi)
                                have p27 : 0 ≤ ((ji19) : Int) := of_decide_eq_true (by first | (with_reducible assumption) | assumption)
                                have q27 : ((ji19) : Int) < (2 : Int) := of_decide_eq_true (by first | (with_reducible assumption) | assumption)
                                replace p27 := eq_true p27
                                replace q27 := eq_true q27
                                refine hK.out _ _ ⟨(arr_cell (by (with_reducible repeat (first | refine blk_drewN ?_ _ | refine blk_drew ?_ | refine blk_alloc ?_ _)); exact BK118.out) (ji19) _ (by have h0_ : (0 : Int) ≤ (ji19) := of_decide_eq_true (by first | (with_reducible assumption) | assumption); omega) (of_decide_eq_true (by first | (with_reducible assumption) | assumption))), ((HB.out.cell (World.block_lt_of_cell? w _ hw122_0)).trans hw122_0), ((HB.out.cell (World.block_lt_of_cell? w _ hw122_1)).trans hw122_1), ((HB.out.cell (World.block_lt_of_cell? w _ hw122_2)).trans hw122_2), ((HB.out.cell (World.block_lt_of_cell? w _ hw122_3)).trans hw122_3)⟩ (fun hHeld => ?_)
                                clear hK K
                                refine norm_ (a' := ?_) ?_ ?_
                                rotate_left
                                · show Act.put _ (some 53) _ = _
                                  simp only [Act.put, List.setIfInBounds_toArray, List.set_cons_zero, List.set_cons_succ, i64_w, i32_w]
                                  rfl
                                refine pure_ (i := 8) (N := some 54) (v := ?_) (a' := ?_) #[true, true, true, true, true, true, true, true, true, false, false] rfl rfl (any_of HT_.out (by kernel_rfl)) (fun _ _ _ h => h) (Or.inl ⟨by rfl, ?_⟩) ?_ ?_
                                rotate_left
                                · intro w'
                                  go_simp
                                  with_reducible rfl
                                rotate_left
                                · simp only [Act.put, List.setIfInBounds_toArray, List.set_cons_zero, List.set_cons_succ, i64_w, i32_w]
                                  rfl
                                refine pure_ (i := 9) (N := some 55) (v := ?_) (a' := ?_) #[true, true, true, true, true, true, true, true, true, true, false] rfl rfl (any_of HT_.out (by kernel_rfl)) (fun _ _ _ h => h) (Or.inl ⟨by rfl, ?_⟩) ?_ ?_
                                rotate_left
                                · intro w'
                                  go_simp
                                  with_reducible rfl
                                rotate_left
                                · simp only [Act.put, List.setIfInBounds_toArray, List.set_cons_zero, List.set_cons_succ, i64_w, i32_w]
                                  rfl
                                refine last_ (i := 10) (N := none) #[true, true, true, true, true, true, true, true, true, true, true] rfl rfl (one_of HT_.out (by kernel_rfl)) (by decide) (fun K hK => ?_)
                                refine arr_put_step (te := 2) (p := 55) (v := ?vv_w32) (j := ?jj_w32) (k := .i64) ?hg ?hn ?ho (i := (ji19)) (l := x119000_2) (g := gb118) (x := (wrap64 ((rd x119000_2 (ji19)) + t123))) ?hp (by (with_reducible repeat (first | refine blk_drewN ?_ _ | refine blk_drew ?_ | refine blk_alloc ?_ _)); exact BK118.out) ?hj (of_decide_eq_true (by first | (with_reducible assumption) | assumption)) ?hr ?_; (case ho => rfl); (case hg => rfl); (case hn => rfl); (case hp => rfl); (case hj => have h0_ : (0 : Int) ≤ (ji19) := of_decide_eq_true (by first | (with_reducible assumption) | assumption); omega); (case hr => intro hcell_ hfroz_; first | (go_simp; done) | (go_simp; rfl))
                                intro w32 hg hx
                                rw [← Ny124.out] at hx
                                have n0_ := Aside0.mk (Kd.R_mono (Kd.R_grown (Kd.R_types (by (with_reducible repeat (first | apply Kd.R_alloc | apply Kd.R_drewN | apply Kd.R_drew)); exact HO_6.out) (by (with_reducible repeat (first | refine blk_drewN ?_ _ | refine blk_drew ?_ | refine blk_alloc ?_ _)); exact BK118.out) (by decide)) hg (fun k_ hk e_ => hk.2 (Option.some.inj e_))) (fun _ h_ => h_.1))
                                have n1_ := Aside0.mk (Kd.R_mono (Kd.R_grown (Kd.R_types (by (with_reducible repeat (first | apply Kd.R_alloc | apply Kd.R_drewN | apply Kd.R_drew)); exact HO_11.out) (by (with_reducible repeat (first | refine blk_drewN ?_ _ | refine blk_drew ?_ | refine blk_alloc ?_ _)); exact BK118.out) (by decide)) hg (fun k_ hk e_ => hk.2 (Option.some.inj e_))) (fun _ h_ => h_.1))
                                have n2_ := Aside0.mk (hx)
                                have n3_ := Aside0.mk (Below.grown (by repeat (first | (with_reducible first | exact HB.out | apply below_alloc | apply pw_below_drewN | apply below_drew1 | refine below_set ?_ GE118.out) | exact HB.out)) hg (below_size (by repeat (first | (with_reducible first | exact HB.out | apply below_alloc | apply pw_below_drewN | apply below_drew1 | refine below_set ?_ GE118.out) | exact HB.out))) (fun k_ e_ => by cases e_; exact GE118.out))
                                clear HO_6
                                clear HO_11
                                clear BK118
                                clear HB
                                have HO_6 := n0_
                                have HO_11 := n1_
                                have BK118 := n2_
                                have HB := n3_
                                clear n0_ n1_ n2_ n3_
                                clear hg hx
                                refine hK.out _ _ ?_
                                clear hK K
                                refine done_ (done_of HT_.out (by kernel_rfl)) ?_
                                try go_wp2_with (first | ((with_reducible refine gate_builtin (b := .append) (xs := #[.tmp 56, .tmp 58]) rfl ?_); at_builtin; refine Kd.R_append (Kd.int .i64) (w0 := w) w.heap.size rfl (.tmp 56) (.tmp 58) 22 2 (.int .i64 0) 8 rfl Try.underlying22 info2 rfl (by decide) (by omega) u11 x11_2 ji19 [.int .i64 ji19] (fun k_ => some k_ ≠ (u6 : Value).ownBlock) (fun _ => False) rfl rfl ?aP (fun _ hk => hk.elim) ?aF ?aO ?aB ?aS ?aL ?_; (case aP => exact rfl); (case aB => exact (by repeat (first | (with_reducible first | exact HB.out | apply below_alloc | apply pw_below_drewN | apply below_drew1 | refine below_set ?_ GE118.out) | exact HB.out))); (case aF => exact (fun k_ hk => Kd.fresh' (Kd.R_lt (by (with_reducible repeat (first | apply Kd.R_alloc | apply Kd.R_drewN | apply Kd.R_drew)); exact HO_6.out)) k_ hk)); (case aO => exact (by (with_reducible repeat (first | apply Kd.R_alloc | apply Kd.R_drewN | apply Kd.R_drew)); exact HO_11.out)); (case aS => exact (below_size (by repeat (first | (with_reducible first | exact HB.out | apply below_alloc | apply pw_below_drewN | apply below_drew1 | refine below_set ?_ GE118.out) | exact HB.out)))); (case aL => have := LMc28.out; omega); intro v126 w33 ho hb hg hat; rw [← Ny125.out] at ho; have n0_ := Aside0.mk (Kd.R_after (ok := (fun _ => True)) (by (with_reducible repeat (first | apply Kd.R_alloc | apply Kd.R_drewN | apply Kd.R_drew)); exact Kd.R_mono HO_6.out (fun _ hk => ⟨trivial, hk⟩)) hg hat); have n1_ := Aside0.mk (blk_grown (g := gb118) (o := .cells (arrC .i64 y124) 81 (0, 0)) (by (with_reducible repeat (first | refine blk_drewN ?_ _ | refine blk_drew ?_ | refine blk_alloc ?_ _)); exact BK118.out) hg (Kd.R_ne HO_11.out BK118.out (by decide))); have n2_ := Aside0.mk (hb); have n3_ := Aside0.mk (ho); clear HO_6; clear BK118; clear HB; clear HO_11; have HO_6 := n0_; have BK118 := n1_; have HB := n2_; have HO127 := n3_; clear n0_ n1_ n2_ n3_; clear ho hb hg hat))
                                go_roundg k2
                                case measure => have := HK1.out; have := HK2.out; omega
                                case rel => exact ⟨(y125), (wrap64 (x12_2 + 1)), (y124), (by first | rfl | (simp; done) | (simp [*]; done)), H', ⟨by have := HK1.out; have := HK2.out; omega⟩, ⟨by (with_reducible repeat (first | apply Kd.R_alloc | apply Kd.R_drewN | apply Kd.R_drew)); exact Kd.R_mono HO_6.out (fun _ hk => hk.2)⟩, ⟨by (with_reducible repeat (first | apply Kd.R_alloc | apply Kd.R_drewN | apply Kd.R_drew)); exact HO127.out⟩, ⟨by (with_reducible repeat (first | refine blk_drewN ?_ _ | refine blk_drew ?_ | refine blk_alloc ?_ _)); exact BK118.out⟩, ⟨by repeat (first | (with_reducible first | exact HB.out | apply below_alloc | apply pw_below_drewN | apply below_drew1 | refine below_set ?_ GE118.out) | exact HB.out)⟩⟩
                              · rw [if_neg c28] at H
                                exact absurd H (by simp)
                            · rw [if_neg c25] at H
                              exact absurd H (by simp)
                          · rw [if_neg c24] at H
                            exact absurd H (by simp)
                        · rw [if_neg c23] at H
                          exact absurd H (by simp)
                      · rw [if_neg c21] at H
                        exact absurd H (by simp)
                    · rw [if_neg c20] at H
                      exact absurd H (by simp)
                  · rw [if_neg c17] at H
                    exact absurd H (by simp)
                · rw [if_neg c15] at H
                  have c15b0 : decide (x12_2 < (l0.length : Int)) = false := decide_eq_false c15
                  clear c15
                  by_cases c34 : 0 < 2
                  · rw [if_pos c34] at H
                    have c34b0 : decide (0 < 2) = true := decide_eq_true c34
                    clear c34
                    by_cases c36 : 0 < (x119000_2.length : Int)
                    · rw [if_pos c36] at H
                      have c36b0 := eq_true c36
                      have c36b1 : decide (0 < (x119000_2.length : Int)) = true := decide_eq_true c36
                      clear c36
                      by_cases c37 : 1 < 2
                      · rw [if_pos c37] at H
                        have c37b0 : decide (1 < 2) = true := decide_eq_true c37
                        clear c37
                        by_cases c39 : 1 < (x119000_2.length : Int)
                        · rw [if_pos c39] at H
                          have c39b0 := eq_true c39
                          have c39b1 : decide (1 < (x119000_2.length : Int)) = true := decide_eq_true c39
                          clear c39
                          replace H := Option.bind_eq_some_iff.mp H
                          obtain ⟨t128, A400, H⟩ := H
                          replace H : (if x7_1 < 0 then (spec_TwoBarrows.l0 k2 l0 x11_2 t128 (l0.length : Int) (wrap64 (x9_1 + 1))) else (if t128 < x7_1 then (spec_TwoBarrows.l0 k2 l0 x11_2 t128 (l0.length : Int) (wrap64 (x9_1 + 1))) else (spec_TwoBarrows.l0 k2 l0 x6_1 x7_1 (l0.length : Int) (wrap64 (x9_1 + 1))))) = some (r1, r2, r3) := H
                          have A40 := Aside0.mk A400
                          clear A400
                          by_cases c41 : x7_1 < 0
                          · rw [if_pos c41] at H
                            have c41b0 : decide (x7_1 < 0) = true := decide_eq_true c41
                            clear c41
                            have H' := Aside0.mk H
                            clear H
                            have p35 : 0 ≤ (0 : Int) := (by omega)
                            have q35 : (0 : Int) < (2 : Int) := of_decide_eq_true (by first | (with_reducible assumption) | assumption)
                            replace p35 := eq_true p35
                            replace q35 := eq_true q35
                            have haz42 : wr.cell? ⟨gb118, 0, none⟩ = some (.int .i64 (rd x119000_2 0)) := arr_cell (by (with_reducible repeat (first | refine blk_drewN ?_ _ | refine blk_drew ?_ | refine blk_alloc ?_ _)); exact BK118.out) 0 _ (by omega) (of_decide_eq_true (by first | (with_reducible assumption) | assumption))
                            have p38 : 0 ≤ (1 : Int) := (by omega)
                            have q38 : (1 : Int) < (2 : Int) := of_decide_eq_true (by first | (with_reducible assumption) | assumption)
                            replace p38 := eq_true p38
                            replace q38 := eq_true q38
                            have haz43 : wr.cell? ⟨gb118, 1, none⟩ = some (.int .i64 (rd x119000_2 1)) := arr_cell (by (with_reducible repeat (first | refine blk_drewN ?_ _ | refine blk_drew ?_ | refine blk_alloc ?_ _)); exact BK118.out) 1 _ (by omega) (of_decide_eq_true (by first | (with_reducible assumption) | assumption))
                            go_wp2_with (first | ((with_reducible refine gate_callee (f := 61) rfl ?_); refine goesL_ (some 64) rfl rfl Try.func61 (by kernel_rfl) rfl #[.int .i64 (rd x119000_2 0), .int .i64 (rd x119000_2 1)] rfl (by (try simp only [List.map_toArray, List.map_cons, List.map_nil]); first | done | rfl | (simp only [List.length_drop, List.length_take]; rfl)) ?_; (with_reducible refine (spec_l00Max.calls (rd x119000_2 0) (rd x119000_2 1) t128 _ A40.out).mono ?_); rintro e w' ⟨rfl, ⟨nd, rfl⟩⟩; refine ⟨_, rfl, ?_⟩))
                            go_roundg k2
                            case measure => have := HK1.out; have := HK2.out; omega
                            case rel => exact ⟨(x11_2), (t128), (wrap64 (x9_1 + 1)), (by first | rfl | (simp; done) | (simp [*]; done)), (by first | rfl | (simp; done) | (simp [*]; done)), H', ⟨by have := HK1.out; have := HK2.out; omega⟩, ⟨by (with_reducible repeat (first | apply Kd.R_alloc | apply Kd.R_drewN | apply Kd.R_drew)); exact Kd.R_mono HO_11.out (fun _ hk => trivial)⟩, ⟨by repeat (first | (with_reducible first | exact HB.out | apply below_alloc | apply pw_below_drewN | apply below_drew1 | refine below_set ?_ GE118.out) | exact HB.out)⟩⟩
                          · rw [if_neg c41] at H
                            have c41b0 : decide (x7_1 < 0) = false := decide_eq_false c41
                            clear c41
                            by_cases c44 : t128 < x7_1
                            · rw [if_pos c44] at H
                              have c44b0 : decide (t128 < x7_1) = true := decide_eq_true c44
                              clear c44
                              have H' := Aside0.mk H
                              clear H
                              have p35 : 0 ≤ (0 : Int) := (by omega)
                              have q35 : (0 : Int) < (2 : Int) := of_decide_eq_true (by first | (with_reducible assumption) | assumption)
                              replace p35 := eq_true p35
                              replace q35 := eq_true q35
                              have haz45 : wr.cell? ⟨gb118, 0, none⟩ = some (.int .i64 (rd x119000_2 0)) := arr_cell (by (with_reducible repeat (first | refine blk_drewN ?_ _ | refine blk_drew ?_ | refine blk_alloc ?_ _)); exact BK118.out) 0 _ (by omega) (of_decide_eq_true (by first | (with_reducible assumption) | assumption))
                              have p38 : 0 ≤ (1 : Int) := (by omega)
                              have q38 : (1 : Int) < (2 : Int) := of_decide_eq_true (by first | (with_reducible assumption) | assumption)
                              replace p38 := eq_true p38
                              replace q38 := eq_true q38
                              have haz46 : wr.cell? ⟨gb118, 1, none⟩ = some (.int .i64 (rd x119000_2 1)) := arr_cell (by (with_reducible repeat (first | refine blk_drewN ?_ _ | refine blk_drew ?_ | refine blk_alloc ?_ _)); exact BK118.out) 1 _ (by omega) (of_decide_eq_true (by first | (with_reducible assumption) | assumption))
                              go_wp2_with (first | ((with_reducible refine gate_callee (f := 61) rfl ?_); refine goesL_ (some 64) rfl rfl Try.func61 (by kernel_rfl) rfl #[.int .i64 (rd x119000_2 0), .int .i64 (rd x119000_2 1)] rfl (by (try simp only [List.map_toArray, List.map_cons, List.map_nil]); first | done | rfl | (simp only [List.length_drop, List.length_take]; rfl)) ?_; (with_reducible refine (spec_l00Max.calls (rd x119000_2 0) (rd x119000_2 1) t128 _ A40.out).mono ?_); rintro e w' ⟨rfl, ⟨nd, rfl⟩⟩; refine ⟨_, rfl, ?_⟩))
                              go_roundg k2
                              case measure => have := HK1.out; have := HK2.out; omega
                              case rel => exact ⟨(x11_2), (t128), (wrap64 (x9_1 + 1)), (by first | rfl | (simp; done) | (simp [*]; done)), (by first | rfl | (simp; done) | (simp [*]; done)), H', ⟨by have := HK1.out; have := HK2.out; omega⟩, ⟨by (with_reducible repeat (first | apply Kd.R_alloc | apply Kd.R_drewN | apply Kd.R_drew)); exact Kd.R_mono HO_11.out (fun _ hk => trivial)⟩, ⟨by repeat (first | (with_reducible first | exact HB.out | apply below_alloc | apply pw_below_drewN | apply below_drew1 | refine below_set ?_ GE118.out) | exact HB.out)⟩⟩
                            · rw [if_neg c44] at H
                              have c44b0 : decide (t128 < x7_1) = false := decide_eq_false c44
                              clear c44
                              have H' := Aside0.mk H
                              clear H
                              have p35 : 0 ≤ (0 : Int) := (by omega)
                              have q35 : (0 : Int) < (2 : Int) := of_decide_eq_true (by first | (with_reducible assumption) | assumption)
                              replace p35 := eq_true p35
                              replace q35 := eq_true q35
                              have haz47 : wr.cell? ⟨gb118, 0, none⟩ = some (.int .i64 (rd x119000_2 0)) := arr_cell (by (with_reducible repeat (first | refine blk_drewN ?_ _ | refine blk_drew ?_ | refine blk_alloc ?_ _)); exact BK118.out) 0 _ (by omega) (of_decide_eq_true (by first | (with_reducible assumption) | assumption))
                              have p38 : 0 ≤ (1 : Int) := (by omega)
                              have q38 : (1 : Int) < (2 : Int) := of_decide_eq_true (by first | (with_reducible assumption) | assumption)
                              replace p38 := eq_true p38
                              replace q38 := eq_true q38
                              have haz48 : wr.cell? ⟨gb118, 1, none⟩ = some (.int .i64 (rd x119000_2 1)) := arr_cell (by (with_reducible repeat (first | refine blk_drewN ?_ _ | refine blk_drew ?_ | refine blk_alloc ?_ _)); exact BK118.out) 1 _ (by omega) (of_decide_eq_true (by first | (with_reducible assumption) | assumption))
                              go_wp2_with (first | ((with_reducible refine gate_callee (f := 61) rfl ?_); refine goesL_ (some 64) rfl rfl Try.func61 (by kernel_rfl) rfl #[.int .i64 (rd x119000_2 0), .int .i64 (rd x119000_2 1)] rfl (by (try simp only [List.map_toArray, List.map_cons, List.map_nil]); first | done | rfl | (simp only [List.length_drop, List.length_take]; rfl)) ?_; (with_reducible refine (spec_l00Max.calls (rd x119000_2 0) (rd x119000_2 1) t128 _ A40.out).mono ?_); rintro e w' ⟨rfl, ⟨nd, rfl⟩⟩; refine ⟨_, rfl, ?_⟩))
                              go_roundg k2
                              case measure => have := HK1.out; have := HK2.out; omega
                              case rel => exact ⟨(x6_1), (x7_1), (wrap64 (x9_1 + 1)), (by first | rfl | (simp; done) | (simp [*]; done)), (by first | rfl | (simp; done) | (simp [*]; done)), H', ⟨by have := HK1.out; have := HK2.out; omega⟩, ⟨by (with_reducible repeat (first | apply Kd.R_alloc | apply Kd.R_drewN | apply Kd.R_drew)); exact Kd.R_mono HO_6.out (fun _ hk => trivial)⟩, ⟨by repeat (first | (with_reducible first | exact HB.out | apply below_alloc | apply pw_below_drewN | apply below_drew1 | refine below_set ?_ GE118.out) | exact HB.out)⟩⟩
                        · rw [if_neg c39] at H
                          exact absurd H (by simp)
                      · rw [if_neg c37] at H
                        exact absurd H (by simp)
                    · rw [if_neg c36] at H
                      exact absurd H (by simp)
                  · rw [if_neg c34] at H
                    exact absurd H (by simp)
          · rw [if_neg c10] at H
            have c10b0 : decide (x9_1 < (ji9)) = false := decide_eq_false c10
            clear c10
            simp only [Option.some.injEq, Prod.mk.injEq] at H
            obtain ⟨rfl, rfl, rfl⟩ := H
            go_wp2
            go_ret3
            exact ⟨_, by first | rfl | (simp [errW_none, errW_some] <;> rfl) | (simp only [← hji7, ← hji9]; first | rfl | (simp [errW_none, errW_some] <;> rfl)) | (simp [*, errW_none, errW_some] <;> rfl), by (with_reducible repeat (first | apply Kd.R_alloc | apply Kd.R_drewN | apply Kd.R_drew)); exact HO_6.out, by repeat (first | (with_reducible first | exact HB.out | apply below_alloc | apply pw_below_drewN | apply below_drew1) | exact HB.out)⟩
        · rw [if_neg c8] at H
          exact absurd H (by simp)
  · rw [if_neg c3] at H
    have c3b0 : (t111 == 0) = false := beq_eq_false_iff_ne.mpr c3
    have c3b1 : (t111 != 0) = true := bne_iff_ne.mpr c3
    obtain ⟨y112, hy112⟩ : ∃ y_ : List Int, y_ = (([] : List Int)) := ⟨_, rfl⟩
    replace H : (some (y112, 0, t111)) = some (r1, r2, r3) := by first | (rw [hy112]; with_reducible exact H) | (have H2_ := (Option.bind_some _ _).symm.trans H; rw [hy112]; with_reducible exact H2_) | (have H2_ := (Option.bind_some _ _).symm.trans H; with_reducible exact H2_) | with_reducible exact H | (rw [hy112]; exact H) | exact H
    have Ny112 := Aside0.mk hy112
    clear hy112
    simp only [Option.some.injEq, Prod.mk.injEq] at H
    obtain ⟨rfl, rfl, rfl⟩ := H
    go_enter Try.func31, Try.ntmps31
    go_wp2_with (first | ((with_reducible refine gate_callee (f := 59) rfl ?_); refine goesL_ (some 16) rfl rfl Try.func59 (by kernel_rfl) rfl #[.slice A0 l0.length c0] rfl (by (try simp only [List.map_toArray, List.map_cons, List.map_nil]); first | done | rfl | (simp only [List.length_drop, List.length_take]; rfl)) ?_; (with_reducible refine (spec_l05Heavy.calls k _ _ l0 t111 _ ?side1 ?side2 A2.out).mono ?_); (case side1 => repeat (first | exact HR0.out | (with_reducible refine Kd.C_alloc ?_ _) | (with_reducible refine Kd.C_drewN ?_ _) | (with_reducible refine Kd.C_drew ?_))); (case side2 => exact HC0.out); rintro e w49 ⟨rfl, hb⟩; refine ⟨_, rfl, ?_⟩; have n0_ := Aside0.mk (below_step (by repeat (first | (with_reducible first | exact HB.out | apply below_alloc | apply pw_below_drewN | apply below_drew1) | exact HB.out)) hb); clear HB; have HB := n0_; clear n0_; (try clear hb); (try clear hb2); (try clear hk); (try clear hi)) | ((with_reducible refine gate_dst (N := 19) rfl ?_); refine Kd.R_lit (Kd.int .i64) _ 2 ?hg (N := 19) ?hd (xs := ([] : List Int)) (inner := []) (ok := fun _ => True) (okp := fun _ => True) ?hr ?hp (fun _ hk => hk) trivial (Below.refl _ _) (Nat.le_refl _) (by simp) ?_; (case hd => rfl); (case hg => rfl); (case hr => first | (go_simp; done) | (go_simp; rfl)); (case hp => exact (Reps.none _ _)); intro v113 w50 ho51 hb hg_ hnew_; clear hg_ hnew_; (first | rw [← Ny112.out] at ho51 | (simp only [Int.reduceToNat] at ho51; rw [← Ny112.out] at ho51)); have n0_ := Aside0.mk (Kd.R_lower ho51 (below_size (by repeat (first | (with_reducible first | exact HB.out | apply below_alloc | apply pw_below_drewN | apply below_drew1) | exact HB.out)))); have n1_ := Aside0.mk (below_step (by repeat (first | (with_reducible first | exact HB.out | apply below_alloc | apply pw_below_drewN | apply below_drew1) | exact HB.out)) hb); clear HB; have HO114 := n0_; have HB := n1_; clear n0_ n1_; clear hb ho51))
    go_ret3
    exact ⟨_, by first | rfl | (simp [errW_none, errW_some] <;> rfl) | (simp [*, errW_none, errW_some] <;> rfl), by (with_reducible repeat (first | apply Kd.R_alloc | apply Kd.R_drewN | apply Kd.R_drew)); exact HO114.out, by repeat (first | (with_reducible first | exact HB.out | apply below_alloc | apply pw_below_drewN | apply below_drew1) | exact HB.out)⟩

end Go.Proofs.Ytpbobnpmiafbbaa.Q
