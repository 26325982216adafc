-- By a program of this session's, out of the translation (with the kit's print). Lean checks it.
import Derived.Test.YtpbobnpmiafbbaaQ0
import Derived.Test.YtpbobnpmiafbbaaQ4
namespace Go.Proofs.Ytpbobnpmiafbbaa.Q
open Go.RowKit Go.Proofs.YtpbobnpmiafbbaaW.PrintWords Go.Proofs.YtpbobnpmiafbbaaW.PrintLast Go.Proofs.YtpbobnpmiafbbaaW.PrintMore
attribute [local go_sem] max2_int min2_int max_two min_two max_three min_three max_four min_four
set_option linter.unusedVariables false
set_option linter.unusedSimpArgs false

/-! ### impl_TwoBarrows: function 33 -/
mutual
def impl_TwoBarrows.l0 : Nat → List Int → List Int → Int → Int → Int → Option (List Int × Int × Int)
  | 0, _, _, _, _, _ => none
  | k + 1, x5, x7, x8, x27, x28 => if x28 < x27 then (impl_TwoBarrows.l1 k x5 x7 x8 x28 (([] : List Int)) x27 x28 x5 (x5.length : Int) 0 (arrZ 2)) else (some (x7, x8, 0))
def impl_TwoBarrows.l1 : Nat → List Int → List Int → Int → Int → List Int → Int → Int → List Int → Int → Int → List Int → Option (List Int × Int × Int)
  | 0, _, _, _, _, _, _, _, _, _, _, _ => none
  | k + 1, x5, x7, x8, x9, x11, x27, x28, x33, x34, x35, x171000 => if x35 < x34 then (if 0 ≤ x35 then (if x35 < (x33.length : Int) then (if 0 ≤ (wrap64 ((wrap64 ((x5.length : Int) - 1)) - x35)) then (if 0 ≤ (Go.bits .and .i64 (shr .i64 x9 (wrap64 ((wrap64 ((x5.length : Int) - 1)) - x35))) 1) then (if (Go.bits .and .i64 (shr .i64 x9 (wrap64 ((wrap64 ((x5.length : Int) - 1)) - x35))) 1) < 2 then (if (Go.bits .and .i64 (shr .i64 x9 (wrap64 ((wrap64 ((x5.length : Int) - 1)) - x35))) 1) < (x171000.length : Int) then (if x11.length < 17592186044416 then (impl_TwoBarrows.l1 k x5 x7 x8 x9 (x11 ++ [Go.bits .and .i64 (shr .i64 x9 (wrap64 ((wrap64 ((x5.length : Int) - 1)) - x35))) 1]) x27 x28 x33 x34 (wrap64 (x35 + 1)) (x171000.set ((Go.bits .and .i64 (shr .i64 x9 (wrap64 ((wrap64 ((x5.length : Int) - 1)) - x35))) 1) : Int).toNat (wrap64 ((rd x171000 (Go.bits .and .i64 (shr .i64 x9 (wrap64 ((wrap64 ((x5.length : Int) - 1)) - x35))) 1)) + (rd x33 x35))))) else (none)) else (none)) else (none)) else (none)) else (none)) else (none)) else (none)) else (if 0 < 2 then (if 0 < (x171000.length : Int) then (if 1 < 2 then (if 1 < (x171000.length : Int) then (if x8 < 0 then (impl_TwoBarrows.l0 k x5 x11 (mx (rd x171000 0) (rd x171000 1)) x27 (wrap64 (x28 + 1))) else (if (mx (rd x171000 0) (rd x171000 1)) < x8 then (impl_TwoBarrows.l0 k x5 x11 (mx (rd x171000 0) (rd x171000 1)) x27 (wrap64 (x28 + 1))) else (impl_TwoBarrows.l0 k x5 x7 x8 x27 (wrap64 (x28 + 1))))) else (none)) else (none)) else (none)) else (none))
end
def impl_TwoBarrows.f (k : Nat) (l0 : List (S84)) : Option (List Int × Int × Int) := (impl_weights.f k l0).bind fun bt160 => (if bt160.2 = 0 then (impl_TwoBarrows.l0 k bt160.1 (([] : List Int)) (-1) (shl .i64 1 (bt160.1.length : Int)) 0) else (some (([] : List Int), 0, bt160.2)))
theorem impl_TwoBarrows.mono_l : ∀ k, (∀ y0 y1 y2 y3 y4, LeO (impl_TwoBarrows.l0 k y0 y1 y2 y3 y4) (impl_TwoBarrows.l0 (k + 1) y0 y1 y2 y3 y4)) ∧ (∀ y0 y1 y2 y3 y4 y5 y6 y7 y8 y9 y10, LeO (impl_TwoBarrows.l1 k y0 y1 y2 y3 y4 y5 y6 y7 y8 y9 y10) (impl_TwoBarrows.l1 (k + 1) y0 y1 y2 y3 y4 y5 y6 y7 y8 y9 y10))
  | 0 => ⟨fun _ _ _ _ _ r h => by simp [impl_TwoBarrows.l0] at h, fun _ _ _ _ _ _ _ _ _ _ _ r h => by simp [impl_TwoBarrows.l1] at h⟩
  | k + 1 => by
    obtain ⟨ih0, ih1⟩ := impl_TwoBarrows.mono_l k
    refine ⟨?_, ?_⟩
    · intro y0 y1 y2 y3 y4
      unfold impl_TwoBarrows.l0
      repeat' first
      | (with_reducible exact ih0 _ _ _ _ _)
      | (with_reducible exact ih1 _ _ _ _ _ _ _ _ _ _ _)
      | (with_reducible exact impl_weights.mono _ _)
      | (with_reducible exact LeO.refl _)
      | (with_reducible exact LeO.none _)
      | (with_reducible refine LeO.ite ?_ ?_)
      | (with_reducible refine LeO.bind ?_ (fun _ => ?_))
      | exact ih0 _ _ _ _ _
      | exact ih1 _ _ _ _ _ _ _ _ _ _ _
      | exact impl_weights.mono _ _
      | exact LeO.none _
      | refine LeO.ite ?_ ?_
      | refine LeO.bind ?_ (fun _ => ?_)
    · intro y0 y1 y2 y3 y4 y5 y6 y7 y8 y9 y10
      unfold impl_TwoBarrows.l1
      repeat' first
      | (with_reducible exact ih0 _ _ _ _ _)
      | (with_reducible exact ih1 _ _ _ _ _ _ _ _ _ _ _)
      | (with_reducible exact impl_weights.mono _ _)
      | (with_reducible exact LeO.refl _)
      | (with_reducible exact LeO.none _)
      | (with_reducible refine LeO.ite ?_ ?_)
      | (with_reducible refine LeO.bind ?_ (fun _ => ?_))
      | exact ih0 _ _ _ _ _
      | exact ih1 _ _ _ _ _ _ _ _ _ _ _
      | exact impl_weights.mono _ _
      | exact LeO.none _
      | refine LeO.ite ?_ ?_
      | refine LeO.bind ?_ (fun _ => ?_)
theorem impl_TwoBarrows.mono : ∀ a0 k, LeO (impl_TwoBarrows.f k a0) (impl_TwoBarrows.f (k + 1) a0) := by
  intro a0 k
  obtain ⟨ih0, ih1⟩ := impl_TwoBarrows.mono_l k
  unfold impl_TwoBarrows.f
  repeat' first
      | (with_reducible exact ih0 _ _ _ _ _)
      | (with_reducible exact ih1 _ _ _ _ _ _ _ _ _ _ _)
      | (with_reducible exact impl_weights.mono _ _)
      | (with_reducible exact LeO.refl _)
      | (with_reducible exact LeO.none _)
      | (with_reducible refine LeO.ite ?_ ?_)
      | (with_reducible refine LeO.bind ?_ (fun _ => ?_))
      | exact ih0 _ _ _ _ _
      | exact ih1 _ _ _ _ _ _ _ _ _ _ _
      | exact impl_weights.mono _ _
      | exact LeO.none _
      | refine LeO.ite ?_ ?_
      | refine LeO.bind ?_ (fun _ => ?_)
set_option maxHeartbeats 8000000 in
set_option maxRecDepth 100000 in
theorem impl_TwoBarrows.calls (k : Nat) (A0 : Option Addr) (c0 : Nat) (l0 : List (S84)) (r1 : List Int) (r2 : Int) (r3 : Int) (w : World) (hr0 : Kd.C k84 w A0 l0.length l0) (hc0 : l0.length ≤ c0) (h : impl_TwoBarrows.f k l0 = some (r1, r2, r3)) :
    Calls Try.prog 33 #[.slice A0 l0.length c0] w fun e w' => ∃ v0_ : Value, e = .returned (.tuple #[v0_, .int .i64 r2, .int .i64 r3]) ∧ Kd.R (Kd.int .i64) 2 w' w.heap.size (fun _ => True) v0_ r1 ∧ Below w.heap.size w w' := by
  have hu81 := Try.underlying81
  have HR0 := Aside0.mk hr0
  have HC0 := Aside0.mk hc0
  clear hr0 hc0
  have HB := Aside0.mk (Below.refl w.heap.size w)
  have H : ((impl_weights.f k l0).bind fun bt160 => (if bt160.2 = 0 then (impl_TwoBarrows.l0 k bt160.1 (([] : List Int)) (-1) (shl .i64 1 (bt160.1.length : Int)) 0) else (some (([] : List Int), 0, bt160.2)))) = some (r1, r2, r3) := h
  clear h
  replace H := Option.bind_eq_some_iff.mp H
  obtain ⟨⟨t160, t161⟩, A20, H⟩ := H
  replace H : (if t161 = 0 then (impl_TwoBarrows.l0 k t160 (([] : List Int)) (-1) (shl .i64 1 (t160.length : Int)) 0) else (some (([] : List Int), 0, t161))) = some (r1, r2, r3) := H
  have A2 := Aside0.mk A20
  clear A20
  by_cases c3 : t161 = 0
  · rw [if_pos c3] at H
    have c3b0 : (t161 == 0) = true := beq_iff_eq.mpr c3
    have c3b1 : (t161 != 0) = false := bne_eq_false_iff_eq.mpr c3
    clear c3
    obtain ⟨y164, hy164⟩ : ∃ y_ : List Int, y_ = (([] : List Int)) := ⟨_, rfl⟩
    replace H : (impl_TwoBarrows.l0 k t160 y164 (-1) (shl .i64 1 (t160.length : Int)) 0) = some (r1, r2, r3) := by first | (rw [hy164]; with_reducible exact H) | (have H2_ := (Option.bind_some _ _).symm.trans H; rw [hy164]; with_reducible exact H2_) | (have H2_ := (Option.bind_some _ _).symm.trans H; with_reducible exact H2_) | with_reducible exact H | (rw [hy164]; exact H) | exact H
    have Ny164 := Aside0.mk hy164
    clear hy164
    obtain ⟨ji4, hji4⟩ : ∃ j_ : Int, (shl .i64 1 (t160.length : Int)) = j_ := ⟨_, rfl⟩
    replace H : (impl_TwoBarrows.l0 k t160 y164 (-1) ji4 0) = some (r1, r2, r3) := by first | (rw [hji4] at H; exact H) | (simp only [hji4] at H ⊢; exact H)
    (try rw [hji4] at A2)
    have hji4_ : (IntKind.i64.wrap (1 * 2 ^ min (t160.length : Int).toNat 64)) = ji4 := hji4
    have hji4z : (t160.length : Int) ≤ 64 → (IntKind.i64.wrap (1 * 2 ^ (t160.length : Int).toNat)) = ji4 := shl_small hji4
    have hji4p : (IntKind.i64.wrap (1 * 2 ^ min t160.length 64)) = ji4 := hji4_
    have hji4q : (t160.length : Int) ≤ 64 → (IntKind.i64.wrap (1 * 2 ^ t160.length)) = ji4 := hji4z
    have hji4r : (IntKind.i64.wrap (2 ^ min t160.length 64)) = ji4 := by have h_ := hji4p; rw [Int.one_mul] at h_; exact h_
    have hji4s : (t160.length : Int) ≤ 64 → (IntKind.i64.wrap (2 ^ t160.length)) = ji4 := fun hle_ => by have h_ := hji4q hle_; rw [Int.one_mul] at h_; exact h_
    have hji4u : (IntKind.i64.wrap (2 ^ min (t160.length : Int).toNat 64)) = ji4 := by have h_ := hji4_; rw [Int.one_mul] at h_; exact h_
    have hji4v : (t160.length : Int) ≤ 64 → (IntKind.i64.wrap (2 ^ (t160.length : Int).toNat)) = ji4 := fun hle_ => by have h_ := hji4z hle_; rw [Int.one_mul] at h_; exact h_
    have hji4y : (wrap64 (1 * 2 ^ min (t160.length : Int).toNat 64)) = ji4 := (i64_w _).symm.trans hji4_
    have hji4x : (t160.length : Int) ≤ 64 → (wrap64 (1 * 2 ^ (t160.length : Int).toNat)) = ji4 := fun h_ => (i64_w _).symm.trans (hji4z h_)
    have H' := Aside0.mk H
    clear H
    go_enter Try.func33, Try.ntmps33
    go_wp2_with (first | ((with_reducible refine gate_callee (f := 63) rfl ?_); refine goesL_ (some 18) rfl rfl Try.func63 (by kernel_rfl) rfl #[.slice A0 l0.length c0] rfl (by (try simp only [List.map_toArray, List.map_cons, List.map_nil]); first | done | rfl | (simp only [List.length_drop, List.length_take]; rfl)) ?_; (with_reducible refine (impl_weights.calls k _ _ l0 t160 t161 _ ?side1 ?side2 A2.out).mono ?_); (case side1 => repeat (first | exact HR0.out | (with_reducible refine Kd.C_alloc ?_ _) | (with_reducible refine Kd.C_drewN ?_ _) | (with_reducible refine Kd.C_drew ?_))); (case side2 => exact HC0.out); rintro e w5 ⟨v162, rfl, ho0, hb⟩; refine ⟨_, rfl, ?_⟩; have n0_ := Aside0.mk (Kd.R_lower ho0 (below_size (by repeat (first | (with_reducible first | exact HB.out | apply below_alloc | apply pw_below_drewN | apply below_drew1) | exact HB.out)))); have n1_ := Aside0.mk (below_step (by repeat (first | (with_reducible first | exact HB.out | apply below_alloc | apply pw_below_drewN | apply below_drew1) | exact HB.out)) hb); clear HB; have HO163 := n0_; have HB := n1_; clear n0_ n1_; (try clear hb); (try clear hb2); (try clear hk); (try clear hi); (try clear ho0)) | ((with_reducible refine gate_dst (N := 24) rfl ?_); refine Kd.R_lit (Kd.int .i64) _ 2 ?hg (N := 24) ?hd (xs := ([] : List Int)) (inner := []) (ok := fun _ => True) (okp := fun _ => True) ?hr ?hp (fun _ hk => hk) trivial (Below.refl _ _) (Nat.le_refl _) (by simp) ?_; (case hd => rfl); (case hg => rfl); (case hr => first | (go_simp; done) | (go_simp; rfl)); (case hp => exact (Reps.none _ _)); intro v165 w6 ho7 hb hg_ hnew_; clear hg_ hnew_; (first | rw [← Ny164.out] at ho7 | (simp only [Int.reduceToNat] at ho7; rw [← Ny164.out] at ho7)); have n0_ := Aside0.mk (Kd.R_elder' (by (with_reducible repeat (first | apply Kd.R_alloc | apply Kd.R_drewN | apply Kd.R_drew)); exact HO163.out) (Kd.R_base ho7) hb); have n1_ := Aside0.mk (Kd.R_lower (Kd.R_new' ho7 (Kd.R_lt (by (with_reducible repeat (first | apply Kd.R_alloc | apply Kd.R_drewN | apply Kd.R_drew)); exact HO163.out))) (below_size (by repeat (first | (with_reducible first | exact HB.out | apply below_alloc | apply pw_below_drewN | apply below_drew1) | exact HB.out)))); have n2_ := Aside0.mk (below_step (by repeat (first | (with_reducible first | exact HB.out | apply below_alloc | apply pw_below_drewN | apply below_drew1) | exact HB.out)) hb); clear HO163; clear HB; have HO163 := n0_; have HO166 := n1_; have HB := n2_; clear n0_ n1_ n2_; clear hb ho7; obtain ⟨Ao8, co8, eo8⟩ := Kd.R_slice HO163.out; subst eo8))
    go_loopg [7, 8, 28] k (fun kq v7 v8 v28 w' => ∃ (x7_1 : List Int) (x8_1 : Int) (x28_1 : Int), v8 = .int .i64 x8_1 ∧ v28 = .int .i64 x28_1 ∧ Aside0 (impl_TwoBarrows.l0 kq t160 x7_1 x8_1 ji4 x28_1 = some (r1, r2, r3)) ∧ Aside0 (kq ≤ k) ∧ Aside0 (Kd.R (Kd.int .i64) 2 w' w.heap.size (fun k_ => some k_ ≠ (v7 : Value).ownBlock) (.slice Ao8 t160.length co8) t160) ∧ Aside0 (Kd.R (Kd.int .i64) 2 w' w.heap.size (fun k_ => some k_ ≠ ((.slice Ao8 t160.length co8) : Value).ownBlock) v7 x7_1) ∧ Aside0 (Below w.heap.size w w'))
    case atStart => exact ⟨(y164), ((-1)), (0), (by first | rfl | (simp; done) | (simp [*]; done)), (by first | rfl | (simp; done) | (simp [*]; done)), H', ⟨Nat.le_refl _⟩, ⟨by (with_reducible repeat (first | apply Kd.R_alloc | apply Kd.R_drewN | apply Kd.R_drew)); exact Kd.R_mono HO163.out (fun _ hk => hk.2)⟩, ⟨by (with_reducible repeat (first | apply Kd.R_alloc | apply Kd.R_drewN | apply Kd.R_drew)); exact Kd.R_mono HO166.out (fun _ hk => hk.2)⟩, ⟨by repeat (first | (with_reducible first | exact HB.out | apply below_alloc | apply pw_below_drewN | apply below_drew1) | exact HB.out)⟩⟩
    case round =>
      clear H'
      try clear p2
      try clear c3
      try clear c3b0
      try clear c3b1
      try clear c6
      try clear p6
      obtain ⟨x7_1, x8_1, x28_1, rfl, rfl, HA, HK1, HO_5, HO_7, HB⟩ := hrel
      cases gk with
      | zero => exact absurd HA.out (by simp [impl_TwoBarrows.l0])
      | succ k1 =>
        have H := HA.out
        clear HA
        simp only [impl_TwoBarrows.l0] at H
        by_cases c9 : x28_1 < ji4
        · rw [if_pos c9] at H
          have c9b0 : decide (x28_1 < ji4) = true := decide_eq_true c9
          clear c9
          obtain ⟨y167, hy167⟩ : ∃ y_ : List Int, y_ = (([] : List Int)) := ⟨_, rfl⟩
          replace H : (impl_TwoBarrows.l1 k1 t160 x7_1 x8_1 x28_1 y167 ji4 x28_1 t160 (t160.length : Int) 0 (arrZ 2)) = some (r1, r2, r3) := by first | (rw [hy167]; with_reducible exact H) | (have H2_ := (Option.bind_some _ _).symm.trans H; rw [hy167]; with_reducible exact H2_) | (have H2_ := (Option.bind_some _ _).symm.trans H; with_reducible exact H2_) | with_reducible exact H | (rw [hy167]; exact H) | exact H
          have Ny167 := Aside0.mk hy167
          clear hy167
          have H' := Aside0.mk H
          clear H
          go_wp2_with (first | ((with_reducible refine gate_dst (N := 31) rfl ?_); refine arr_build ?hg (N := 31) ?hd (t := 81) ?ho .i64 2 Try.underlying81 (by kernel_rfl) (by kernel_rfl) ?_; (case hd => rfl); (case hg => rfl); (case ho => rfl)) | ((with_reducible refine gate_dst (N := 32) rfl ?_); refine Kd.R_lit (Kd.int .i64) _ 2 ?hg (N := 32) ?hd (xs := ([] : List Int)) (inner := []) (ok := fun _ => True) (okp := fun _ => True) ?hr ?hp (fun _ hk => hk) trivial (Below.refl _ _) (Nat.le_refl _) (by simp) ?_; (case hd => rfl); (case hg => rfl); (case hr => first | (go_simp; done) | (go_simp; rfl)); (case hp => exact (Reps.none _ _)); intro v168 w10 ho11 hb hg_ hnew_; clear hg_ hnew_; (first | rw [← Ny167.out] at ho11 | (simp only [Int.reduceToNat] at ho11; rw [← Ny167.out] at ho11)); have n0_ := Aside0.mk (Kd.R_elder' (by (with_reducible repeat (first | apply Kd.R_alloc | apply Kd.R_drewN | apply Kd.R_drew)); exact HO_5.out) (Kd.R_base ho11) hb); have n1_ := Aside0.mk (Kd.R_elder' (by (with_reducible repeat (first | apply Kd.R_alloc | apply Kd.R_drewN | apply Kd.R_drew)); exact HO_7.out) (Kd.R_base ho11) hb); have n2_ := Aside0.mk (Kd.R_lower (Kd.R_new' (Kd.R_new' ho11 (Kd.R_lt (by (with_reducible repeat (first | apply Kd.R_alloc | apply Kd.R_drewN | apply Kd.R_drew)); exact HO_5.out))) (Kd.R_lt (by (with_reducible repeat (first | apply Kd.R_alloc | apply Kd.R_drewN | apply Kd.R_drew)); exact HO_7.out))) (below_size (by repeat (first | (with_reducible first | exact HB.out | apply below_alloc | apply pw_below_drewN | apply below_drew1) | exact HB.out)))); have n3_ := Aside0.mk (below_step (by repeat (first | (with_reducible first | exact HB.out | apply below_alloc | apply pw_below_drewN | apply below_drew1) | exact HB.out)) hb); clear HO_5; clear HO_7; clear HB; have HO_5 := n0_; have HO_7 := n1_; have HO169 := n2_; have HB := n3_; clear n0_ n1_ n2_ n3_; clear hb ho11) | ((with_reducible refine gate_dst (N := 10) rfl ?_); refine box_event ?hg (N := 10) ?hd (cs := (arrC .i64 (arrZ 2))) (t := 81) ?hr ?_; (case hd => rfl); (case hg => rfl); (case hr => exact arr_alloc rfl .i64 2 (by kernel_rfl)); intro gb170 hg w12 hbox hb; have n0_ := Aside0.mk (Kd.R_below (by (with_reducible repeat (first | apply Kd.R_alloc | apply Kd.R_drewN | apply Kd.R_drew)); exact HO_5.out) hb); have n1_ := Aside0.mk (Kd.R_below (by (with_reducible repeat (first | apply Kd.R_alloc | apply Kd.R_drewN | apply Kd.R_drew)); exact HO_7.out) hb); have n2_ := Aside0.mk (Kd.R_below (by (with_reducible repeat (first | apply Kd.R_alloc | apply Kd.R_drewN | apply Kd.R_drew)); exact HO169.out) hb); have n3_ := Aside0.mk (below_step (by repeat (first | (with_reducible first | exact HB.out | apply below_alloc | apply pw_below_drewN | apply below_drew1) | exact HB.out)) hb); have n4_ := Aside0.mk (hbox); have n5_ := Aside0.mk ((by rw [hg]; exact (below_size (by repeat (first | (with_reducible first | exact HB.out | apply below_alloc | apply pw_below_drewN | apply below_drew1) | exact HB.out))) : w.heap.size ≤ gb170)); have n6_ := Aside0.mk ((by rw [hg]; exact (below_size (by repeat (first | (with_reducible first | exact HB.out | apply below_alloc | apply pw_below_drewN | apply below_drew1) | exact HB.out))) : w.heap.size ≤ gb170)); clear HO_5; clear HO_7; clear HO169; clear HB; have HO_5 := n0_; have HO_7 := n1_; have HO169 := n2_; have HB := n3_; have BK170 := n4_; have GW170 := n5_; have GE170 := n6_; clear n0_ n1_ n2_ n3_ n4_ n5_ n6_; clear hb hbox hg) | ((with_reducible refine gate_store (t := 81) (p := 10) rfl ?_); refine arr_store (p := 10) (v := ?vv_w13) (n := 2) (k := .i64) (g := gb170) (l := (arrZ 2)) (l2 := (arrZ 2)) ?hg ?hn (t := 81) ?ho ?hp ?hv (by (with_reducible repeat (first | refine blk_drewN ?_ _ | refine blk_drew ?_ | refine blk_alloc ?_ _)); exact BK170.out) (by kernel_rfl) (arrZ_length _) (arrZ_length _) ?_; (case ho => rfl); (case hg => rfl); (case hn => rfl); (case hp => rfl); (case hv => rfl); intro w13 hg hx; have n0_ := Aside0.mk (Kd.R_mono (Kd.R_grown (Kd.R_types (by (with_reducible repeat (first | apply Kd.R_alloc | apply Kd.R_drewN | apply Kd.R_drew)); exact HO_5.out) (by (with_reducible repeat (first | refine blk_drewN ?_ _ | refine blk_drew ?_ | refine blk_alloc ?_ _)); exact BK170.out) (by decide)) hg (fun k_ hk e_ => hk.2 (Option.some.inj e_))) (fun _ h_ => h_.1)); have n1_ := Aside0.mk (Kd.R_mono (Kd.R_grown (Kd.R_types (by (with_reducible repeat (first | apply Kd.R_alloc | apply Kd.R_drewN | apply Kd.R_drew)); exact HO_7.out) (by (with_reducible repeat (first | refine blk_drewN ?_ _ | refine blk_drew ?_ | refine blk_alloc ?_ _)); exact BK170.out) (by decide)) hg (fun k_ hk e_ => hk.2 (Option.some.inj e_))) (fun _ h_ => h_.1)); have n2_ := Aside0.mk (Kd.R_mono (Kd.R_grown (Kd.R_types (by (with_reducible repeat (first | apply Kd.R_alloc | apply Kd.R_drewN | apply Kd.R_drew)); exact HO169.out) (by (with_reducible repeat (first | refine blk_drewN ?_ _ | refine blk_drew ?_ | refine blk_alloc ?_ _)); exact BK170.out) (by decide)) hg (fun k_ hk e_ => hk.2 (Option.some.inj e_))) (fun _ h_ => h_.1)); have n3_ := Aside0.mk (hx); have n4_ := Aside0.mk (Below.grown (by repeat (first | (with_reducible first | exact HB.out | apply below_alloc | apply pw_below_drewN | apply below_drew1 | refine below_set ?_ GE170.out) | exact HB.out)) hg (below_size (by repeat (first | (with_reducible first | exact HB.out | apply below_alloc | apply pw_below_drewN | apply below_drew1 | refine below_set ?_ GE170.out) | exact HB.out))) (fun k_ e_ => by cases e_; exact GE170.out)); clear HO_5; clear HO_7; clear HO169; clear BK170; clear HB; have HO_5 := n0_; have HO_7 := n1_; have HO169 := n2_; have BK170 := n3_; have HB := n4_; clear n0_ n1_ n2_ n3_ n4_; clear hg hx))
          go_loopg [11, 35] k1 (fun kq v11 v35 w' => ∃ (x11_2 : List Int) (x35_2 : Int) (x171000_2 : List Int), v35 = .int .i64 x35_2 ∧ Aside0 (impl_TwoBarrows.l1 kq t160 x7_1 x8_1 x28_1 x11_2 ji4 x28_1 t160 (t160.length : Int) x35_2 x171000_2 = some (r1, r2, r3)) ∧ Aside0 (kq ≤ k1) ∧ Aside0 (Kd.R (Kd.int .i64) 2 w' w.heap.size (fun k_ => some k_ ≠ (u7 : Value).ownBlock ∧ some k_ ≠ (v11 : Value).ownBlock) (.slice Ao8 t160.length co8) t160) ∧ Aside0 (Kd.R (Kd.int .i64) 2 w' w.heap.size (fun k_ => some k_ ≠ ((.slice Ao8 t160.length co8) : Value).ownBlock ∧ some k_ ≠ (v11 : Value).ownBlock ∧ some k_ ≠ ((.slice Ao8 t160.length co8) : Value).ownBlock) u7 x7_1) ∧ Aside0 (Kd.R (Kd.int .i64) 2 w' w.heap.size (fun k_ => some k_ ≠ ((.slice Ao8 t160.length co8) : Value).ownBlock ∧ some k_ ≠ (u7 : Value).ownBlock ∧ some k_ ≠ ((.slice Ao8 t160.length co8) : Value).ownBlock) v11 x11_2) ∧ Aside0 (Kd.R (Kd.int .i64) 2 w' w.heap.size (fun k_ => some k_ ≠ (u7 : Value).ownBlock ∧ some k_ ≠ (v11 : Value).ownBlock) (.slice Ao8 t160.length co8) t160) ∧ Aside0 (w'.heap[gb170]? = some (.cells (arrC .i64 x171000_2) 81 (0, 0))) ∧ Aside0 (Below w.heap.size w w'))
          case atStart => exact ⟨(y167), (0), ((arrZ 2)), (by first | rfl | (simp; done) | (simp [*]; done)), H', ⟨Nat.le_refl _⟩, ⟨by (with_reducible repeat (first | apply Kd.R_alloc | apply Kd.R_drewN | apply Kd.R_drew)); exact HO_5.out⟩, ⟨by (with_reducible repeat (first | apply Kd.R_alloc | apply Kd.R_drewN | apply Kd.R_drew)); exact Kd.R_mono HO_7.out (fun _ hk => ⟨hk.1, ⟨hk.2, hk.1⟩⟩)⟩, ⟨by (with_reducible repeat (first | apply Kd.R_alloc | apply Kd.R_drewN | apply Kd.R_drew)); exact Kd.R_mono HO169.out (fun _ hk => ⟨hk.1.2, ⟨hk.2, hk.1.2⟩⟩)⟩, ⟨by (with_reducible repeat (first | apply Kd.R_alloc | apply Kd.R_drewN | apply Kd.R_drew)); exact HO_5.out⟩, ⟨by (with_reducible repeat (first | refine blk_drewN ?_ _ | refine blk_drew ?_ | refine blk_alloc ?_ _)); exact BK170.out⟩, ⟨by repeat (first | (with_reducible first | exact HB.out | apply below_alloc | apply pw_below_drewN | apply below_drew1 | refine below_set ?_ GE170.out) | exact HB.out)⟩⟩
          case round =>
            clear H'
            try clear p2
            try clear c3
            try clear c3b0
            try clear c3b1
            try clear c6
            try clear p6
            try clear c9
            try clear c9b0
            try clear p2
            try clear p6
            obtain ⟨x11_2, x35_2, x171000_2, rfl, HA, HK2, HO_5, HO_7, HO_11, HO_33, BK170, HB⟩ := hrel
            cases gk with
            | zero => exact absurd HA.out (by simp [impl_TwoBarrows.l1])
            | succ k2 =>
              have H := HA.out
              clear HA
              simp only [impl_TwoBarrows.l1] at H
              by_cases c14 : x35_2 < (t160.length : Int)
              · rw [if_pos c14] at H
                have c14b0 : decide (x35_2 < (t160.length : Int)) = true := decide_eq_true c14
                clear c14
                by_cases c15 : 0 ≤ x35_2
                · rw [if_pos c15] at H
                  have c15b0 : decide (0 ≤ x35_2) = true := decide_eq_true c15
                  clear c15
                  by_cases c16 : x35_2 < (t160.length : Int)
                  · rw [if_pos c16] at H
                    have c16b0 : decide (x35_2 < (t160.length : Int)) = true := decide_eq_true c16
                    clear c16
                    obtain ⟨ji17, hji17⟩ : ∃ j_ : Int, (wrap64 ((wrap64 ((t160.length : Int) - 1)) - x35_2)) = j_ := ⟨_, rfl⟩
                    replace H : (if 0 ≤ (ji17) then (if 0 ≤ (Go.bits .and .i64 (shr .i64 x28_1 (ji17)) 1) then (if (Go.bits .and .i64 (shr .i64 x28_1 (ji17)) 1) < 2 then (if (Go.bits .and .i64 (shr .i64 x28_1 (ji17)) 1) < (x171000_2.length : Int) then (if x11_2.length < 17592186044416 then (impl_TwoBarrows.l1 k2 t160 x7_1 x8_1 x28_1 (x11_2 ++ [Go.bits .and .i64 (shr .i64 x28_1 (ji17)) 1]) ji4 x28_1 t160 (t160.length : Int) (wrap64 (x35_2 + 1)) (x171000_2.set ((Go.bits .and .i64 (shr .i64 x28_1 (ji17)) 1) : Int).toNat (wrap64 ((rd x171000_2 (Go.bits .and .i64 (shr .i64 x28_1 (ji17)) 1)) + (rd t160 x35_2))))) else (none)) else (none)) else (none)) else (none)) else (none)) = some (r1, r2, r3) := by first | (rw [hji17] at H; exact H) | (simp only [hji17] at H ⊢; exact H)
                    have hji17w : (IntKind.i64.wrap ((wrap64 ((t160.length : Int) - 1)) - x35_2)) = ji17 := (i64_w _).trans hji17
                    by_cases c18 : 0 ≤ (ji17)
                    · rw [if_pos c18] at H
                      have c18b0 := eq_true c18
                      have c18b1 : decide (0 ≤ (ji17)) = true := decide_eq_true c18
                      clear c18
                      obtain ⟨ji19, hji19⟩ : ∃ j_ : Int, (shr .i64 x28_1 (ji17)) = j_ := ⟨_, rfl⟩
                      replace H : (if 0 ≤ (Go.bits .and .i64 (ji19) 1) then (if (Go.bits .and .i64 (ji19) 1) < 2 then (if (Go.bits .and .i64 (ji19) 1) < (x171000_2.length : Int) then (if x11_2.length < 17592186044416 then (impl_TwoBarrows.l1 k2 t160 x7_1 x8_1 x28_1 (x11_2 ++ [Go.bits .and .i64 (ji19) 1]) ji4 x28_1 t160 (t160.length : Int) (wrap64 (x35_2 + 1)) (x171000_2.set ((Go.bits .and .i64 (ji19) 1) : Int).toNat (wrap64 ((rd x171000_2 (Go.bits .and .i64 (ji19) 1)) + (rd t160 x35_2))))) else (none)) else (none)) else (none)) else (none)) = some (r1, r2, r3) := by first | (rw [hji19] at H; exact H) | (simp only [hji19] at H ⊢; exact H)
                      have hji19_ : (x28_1 / 2 ^ min (ji17).toNat 64) = ji19 := hji19
                      have hji19z : (ji17) ≤ 64 → (x28_1 / 2 ^ (ji17).toNat) = ji19 := shr_small hji19
                      by_cases c20 : 0 ≤ (Go.bits .and .i64 (ji19) 1)
                      · rw [if_pos c20] at H
                        have c20b0 : decide (0 ≤ (Go.bits .and .i64 (ji19) 1)) = true := decide_eq_true c20
                        clear c20
                        by_cases c21 : (Go.bits .and .i64 (ji19) 1) < 2
                        · rw [if_pos c21] at H
                          have c21b0 : decide ((Go.bits .and .i64 (ji19) 1) < 2) = true := decide_eq_true c21
                          clear c21
                          by_cases c23 : (Go.bits .and .i64 (ji19) 1) < (x171000_2.length : Int)
                          · rw [if_pos c23] at H
                            have c23b0 := eq_true c23
                            have c23b1 : decide ((Go.bits .and .i64 (ji19) 1) < (x171000_2.length : Int)) = true := decide_eq_true c23
                            clear c23
                            obtain ⟨y172, hy172⟩ : ∃ y_ : List Int, y_ = (x171000_2.set ((Go.bits .and .i64 (ji19) 1) : Int).toNat (wrap64 ((rd x171000_2 (Go.bits .and .i64 (ji19) 1)) + (rd t160 x35_2)))) := ⟨_, rfl⟩
                            replace H : (if x11_2.length < 17592186044416 then (impl_TwoBarrows.l1 k2 t160 x7_1 x8_1 x28_1 (x11_2 ++ [Go.bits .and .i64 (ji19) 1]) ji4 x28_1 t160 (t160.length : Int) (wrap64 (x35_2 + 1)) y172) else (none)) = some (r1, r2, r3) := by first | (rw [hy172]; with_reducible exact H) | (have H2_ := (Option.bind_some _ _).symm.trans H; rw [hy172]; with_reducible exact H2_) | (have H2_ := (Option.bind_some _ _).symm.trans H; with_reducible exact H2_) | with_reducible exact H | (rw [hy172]; exact H) | exact H
                            have Ny172 := Aside0.mk hy172
                            clear hy172
                            by_cases c25 : x11_2.length < 17592186044416
                            · rw [if_pos c25] at H
                              have LMc25 := Aside0.mk c25
                              clear c25
                              obtain ⟨y173, hy173⟩ : ∃ y_ : List Int, y_ = (x11_2 ++ [Go.bits .and .i64 (ji19) 1]) := ⟨_, rfl⟩
                              replace H : (impl_TwoBarrows.l1 k2 t160 x7_1 x8_1 x28_1 y173 ji4 x28_1 t160 (t160.length : Int) (wrap64 (x35_2 + 1)) y172) = some (r1, r2, r3) := by first | (rw [hy173]; with_reducible exact H) | (have H2_ := (Option.bind_some _ _).symm.trans H; rw [hy173]; with_reducible exact H2_) | (have H2_ := (Option.bind_some _ _).symm.trans H; with_reducible exact H2_) | with_reducible exact H | (rw [hy173]; exact H) | exact H
                              have Ny173 := Aside0.mk hy173
                              clear hy173
                              have H' := Aside0.mk H
                              clear H
                              have p171 : 0 ≤ (x35_2 : Int) := of_decide_eq_true (by first | (with_reducible assumption) | assumption)
                              have q171 : x35_2 < (t160.length : Int) := of_decide_eq_true (by first | (with_reducible assumption) | assumption)
                              obtain ⟨ad171, e171, hx171_0⟩ := Kd.at_int (Kd.R_reads' HO_33.out).2.2 x35_2 p171 q171
                              cases e171
                              replace p171 := eq_true p171
                              replace q171 := eq_true q171
                              have p22 : 0 ≤ ((Go.bits .and .i64 (ji19) 1) : Int) := of_decide_eq_true (by first | (with_reducible assumption) | assumption)
                              have q22 : ((Go.bits .and .i64 (ji19) 1) : Int) < (2 : Int) := of_decide_eq_true (by first | (with_reducible assumption) | assumption)
                              replace p22 := eq_true p22
                              replace q22 := eq_true q22
                              have haz26 : wr.cell? ⟨gb170, (Go.bits .and .i64 (ji19) 1).toNat, none⟩ = some (.int .i64 (rd x171000_2 (Go.bits .and .i64 (ji19) 1))) := arr_cell (by (with_reducible repeat (first | refine blk_drewN ?_ _ | refine blk_drew ?_ | refine blk_alloc ?_ _)); exact BK170.out) (Go.bits .and .i64 (ji19) 1) _ (by have h0_ : (0 : Int) ≤ (Go.bits .and .i64 (ji19) 1) := of_decide_eq_true (by first | (with_reducible assumption) | assumption); omega) (of_decide_eq_true (by first | (with_reducible assumption) | assumption))
                              have p24 : 0 ≤ ((Go.bits .and .i64 (ji19) 1) : Int) := of_decide_eq_true (by first | (with_reducible assumption) | assumption)
                              have q24 : ((Go.bits .and .i64 (ji19) 1) : Int) < (2 : Int) := of_decide_eq_true (by first | (with_reducible assumption) | assumption)
                              replace p24 := eq_true p24
                              replace q24 := eq_true q24
                              go_wp2_with (first | ((with_reducible refine gate_store (t := 2) (p := 53) rfl ?_); refine arr_put (te := 2) (p := 53) (v := ?vv_w27) (j := ?jj_w27) (k := .i64) ?hg ?hn ?ho (i := (Go.bits .and .i64 (ji19) 1)) (l := x171000_2) (g := gb170) (x := (wrap64 ((rd x171000_2 (Go.bits .and .i64 (ji19) 1)) + (rd t160 x35_2)))) ?hp (by (with_reducible repeat (first | refine blk_drewN ?_ _ | refine blk_drew ?_ | refine blk_alloc ?_ _)); exact BK170.out) ?hj (of_decide_eq_true (by first | (with_reducible assumption) | assumption)) ?hr ?_; (case ho => rfl); (case hg => rfl); (case hn => rfl); (case hp => rfl); (case hj => have h0_ : (0 : Int) ≤ (Go.bits .and .i64 (ji19) 1) := of_decide_eq_true (by first | (with_reducible assumption) | assumption); omega); (case hr => intro hcell_ hfroz_; first | (go_simp; done) | (go_simp; rfl)); intro w27 hg hx; rw [← Ny172.out] at hx; have n0_ := Aside0.mk (Kd.R_mono (Kd.R_grown (Kd.R_types (by (with_reducible repeat (first | apply Kd.R_alloc | apply Kd.R_drewN | apply Kd.R_drew)); exact HO_5.out) (by (with_reducible repeat (first | refine blk_drewN ?_ _ | refine blk_drew ?_ | refine blk_alloc ?_ _)); exact BK170.out) (by decide)) hg (fun k_ hk e_ => hk.2 (Option.some.inj e_))) (fun _ h_ => h_.1)); have n1_ := Aside0.mk (Kd.R_mono (Kd.R_grown (Kd.R_types (by (with_reducible repeat (first | apply Kd.R_alloc | apply Kd.R_drewN | apply Kd.R_drew)); exact HO_7.out) (by (with_reducible repeat (first | refine blk_drewN ?_ _ | refine blk_drew ?_ | refine blk_alloc ?_ _)); exact BK170.out) (by decide)) hg (fun k_ hk e_ => hk.2 (Option.some.inj e_))) (fun _ h_ => h_.1)); have n2_ := Aside0.mk (Kd.R_mono (Kd.R_grown (Kd.R_types (by (with_reducible repeat (first | apply Kd.R_alloc | apply Kd.R_drewN | apply Kd.R_drew)); exact HO_11.out) (by (with_reducible repeat (first | refine blk_drewN ?_ _ | refine blk_drew ?_ | refine blk_alloc ?_ _)); exact BK170.out) (by decide)) hg (fun k_ hk e_ => hk.2 (Option.some.inj e_))) (fun _ h_ => h_.1)); have n3_ := Aside0.mk (Kd.R_mono (Kd.R_grown (Kd.R_types (by (with_reducible repeat (first | apply Kd.R_alloc | apply Kd.R_drewN | apply Kd.R_drew)); exact HO_33.out) (by (with_reducible repeat (first | refine blk_drewN ?_ _ | refine blk_drew ?_ | refine blk_alloc ?_ _)); exact BK170.out) (by decide)) hg (fun k_ hk e_ => hk.2 (Option.some.inj e_))) (fun _ h_ => h_.1)); have n4_ := Aside0.mk (hx); have n5_ := Aside0.mk (Below.grown (by repeat (first | (with_reducible first | exact HB.out | apply below_alloc | apply pw_below_drewN | apply below_drew1 | refine below_set ?_ GE170.out) | exact HB.out)) hg (below_size (by repeat (first | (with_reducible first | exact HB.out | apply below_alloc | apply pw_below_drewN | apply below_drew1 | refine below_set ?_ GE170.out) | exact HB.out))) (fun k_ e_ => by cases e_; exact GE170.out)); clear HO_5; clear HO_7; clear HO_11; clear HO_33; clear BK170; clear HB; have HO_5 := n0_; have HO_7 := n1_; have HO_11 := n2_; have HO_33 := n3_; have BK170 := n4_; have HB := n5_; clear n0_ n1_ n2_ n3_ n4_ n5_; clear hg hx) | ((with_reducible refine gate_builtin (b := .append) (xs := #[.tmp 54, .tmp 56]) rfl ?_); at_builtin; refine Kd.R_append (Kd.int .i64) (w0 := w) w.heap.size rfl (.tmp 54) (.tmp 56) 22 2 (.int .i64 0) 8 rfl Try.underlying22 info2 rfl (by decide) (by omega) u11 x11_2 (Go.bits .and .i64 (ji19) 1) [.int .i64 (Go.bits .and .i64 (ji19) 1)] (fun k_ => some k_ ≠ (.slice (some ad171) t160.length co8 : Value).ownBlock ∧ some k_ ≠ (u7 : Value).ownBlock ∧ some k_ ≠ (.slice (some ad171) t160.length co8 : Value).ownBlock) (fun _ => False) rfl rfl ?aP (fun _ hk => hk.elim) ?aF ?aO ?aB ?aS ?aL ?_; (case aP => exact rfl); (case aB => exact (by repeat (first | (with_reducible first | exact HB.out | apply below_alloc | apply pw_below_drewN | apply below_drew1 | refine below_set ?_ GE170.out) | exact HB.out))); (case aF => exact (fun k_ hk => ⟨Kd.fresh' (Kd.R_lt (by (with_reducible repeat (first | apply Kd.R_alloc | apply Kd.R_drewN | apply Kd.R_drew)); exact HO_5.out)) k_ hk, Kd.fresh' (Kd.R_lt (by (with_reducible repeat (first | apply Kd.R_alloc | apply Kd.R_drewN | apply Kd.R_drew)); exact HO_7.out)) k_ hk, Kd.fresh' (Kd.R_lt (by (with_reducible repeat (first | apply Kd.R_alloc | apply Kd.R_drewN | apply Kd.R_drew)); exact HO_33.out)) k_ hk⟩)); (case aO => exact (by (with_reducible repeat (first | apply Kd.R_alloc | apply Kd.R_drewN | apply Kd.R_drew)); exact HO_11.out)); (case aS => exact (below_size (by repeat (first | (with_reducible first | exact HB.out | apply below_alloc | apply pw_below_drewN | apply below_drew1 | refine below_set ?_ GE170.out) | exact HB.out)))); (case aL => have := LMc25.out; omega); intro v174 w28 ho hb hg hat; rw [← Ny173.out] at ho; have n0_ := Aside0.mk (Kd.R_after (ok := (fun k_ => some k_ ≠ (u7 : Value).ownBlock)) (by (with_reducible repeat (first | apply Kd.R_alloc | apply Kd.R_drewN | apply Kd.R_drew)); exact HO_5.out) hg hat); have n1_ := Aside0.mk (Kd.R_after (ok := (fun k_ => some k_ ≠ (.slice (some ad171) t160.length co8 : Value).ownBlock ∧ some k_ ≠ (.slice (some ad171) t160.length co8 : Value).ownBlock)) (by (with_reducible repeat (first | apply Kd.R_alloc | apply Kd.R_drewN | apply Kd.R_drew)); exact Kd.R_mono HO_7.out (fun _ hk => ⟨⟨hk.1, hk.2.2⟩, hk.2.1⟩)) hg hat); have n2_ := Aside0.mk (Kd.R_after (ok := (fun k_ => some k_ ≠ (u7 : Value).ownBlock)) (by (with_reducible repeat (first | apply Kd.R_alloc | apply Kd.R_drewN | apply Kd.R_drew)); exact HO_33.out) hg hat); have n3_ := Aside0.mk (blk_grown (g := gb170) (o := .cells (arrC .i64 y172) 81 (0, 0)) (by (with_reducible repeat (first | refine blk_drewN ?_ _ | refine blk_drew ?_ | refine blk_alloc ?_ _)); exact BK170.out) hg (Kd.R_ne HO_11.out BK170.out (by decide))); have n4_ := Aside0.mk (hb); have n5_ := Aside0.mk (ho); clear HO_5; clear HO_7; clear HO_33; clear BK170; clear HB; clear HO_11; have HO_5 := n0_; have HO_7 := n1_; have HO_33 := n2_; have BK170 := n3_; have HB := n4_; have HO175 := n5_; clear n0_ n1_ n2_ n3_ n4_ n5_; clear ho hb hg hat))
                              go_roundg k2
                              case measure => have := HK1.out; have := HK2.out; omega
                              case rel => exact ⟨(y173), (wrap64 (x35_2 + 1)), (y172), (by first | rfl | (simp; done) | (simp [*]; done)), H', ⟨by have := HK1.out; have := HK2.out; omega⟩, ⟨by (with_reducible repeat (first | apply Kd.R_alloc | apply Kd.R_drewN | apply Kd.R_drew)); exact HO_5.out⟩, ⟨by (with_reducible repeat (first | apply Kd.R_alloc | apply Kd.R_drewN | apply Kd.R_drew)); exact Kd.R_mono HO_7.out (fun _ hk => ⟨hk.1.1, ⟨hk.2, hk.1.2⟩⟩)⟩, ⟨by (with_reducible repeat (first | apply Kd.R_alloc | apply Kd.R_drewN | apply Kd.R_drew)); exact HO175.out⟩, ⟨by (with_reducible repeat (first | apply Kd.R_alloc | apply Kd.R_drewN | apply Kd.R_drew)); exact HO_33.out⟩, ⟨by (with_reducible repeat (first | refine blk_drewN ?_ _ | refine blk_drew ?_ | refine blk_alloc ?_ _)); exact BK170.out⟩, ⟨by repeat (first | (with_reducible first | exact HB.out | apply below_alloc | apply pw_below_drewN | apply below_drew1 | refine below_set ?_ GE170.out) | exact HB.out)⟩⟩
                            · rw [if_neg c25] at H
                              exact absurd H (by simp)
                          · rw [if_neg c23] at H
                            exact absurd H (by simp)
                        · rw [if_neg c21] at H
                          exact absurd H (by simp)
                      · rw [if_neg c20] at H
                        exact absurd H (by simp)
                    · rw [if_neg c18] at H
                      exact absurd H (by simp)
                  · rw [if_neg c16] at H
                    exact absurd H (by simp)
                · rw [if_neg c15] at H
                  exact absurd H (by simp)
              · rw [if_neg c14] at H
                have c14b0 : decide (x35_2 < (t160.length : Int)) = false := decide_eq_false c14
                clear c14
                by_cases c29 : 0 < 2
                · rw [if_pos c29] at H
                  have c29b0 : decide (0 < 2) = true := decide_eq_true c29
                  clear c29
                  by_cases c31 : 0 < (x171000_2.length : Int)
                  · rw [if_pos c31] at H
                    have c31b0 := eq_true c31
                    have c31b1 : decide (0 < (x171000_2.length : Int)) = true := decide_eq_true c31
                    clear c31
                    by_cases c32 : 1 < 2
                    · rw [if_pos c32] at H
                      have c32b0 : decide (1 < 2) = true := decide_eq_true c32
                      clear c32
                      by_cases c34 : 1 < (x171000_2.length : Int)
                      · rw [if_pos c34] at H
                        have c34b0 := eq_true c34
                        have c34b1 : decide (1 < (x171000_2.length : Int)) = true := decide_eq_true c34
                        clear c34
                        obtain ⟨ji35, hji35⟩ : ∃ j_ : Int, (mx (rd x171000_2 0) (rd x171000_2 1)) = j_ := ⟨_, rfl⟩
                        replace H : (if x8_1 < 0 then (impl_TwoBarrows.l0 k2 t160 x11_2 ji35 ji4 (wrap64 (x28_1 + 1))) else (if (ji35) < x8_1 then (impl_TwoBarrows.l0 k2 t160 x11_2 ji35 ji4 (wrap64 (x28_1 + 1))) else (impl_TwoBarrows.l0 k2 t160 x7_1 x8_1 ji4 (wrap64 (x28_1 + 1))))) = some (r1, r2, r3) := by first | (rw [hji35] at H; exact H) | (simp only [hji35] at H ⊢; exact H)
                        have hji35_ : (if (rd x171000_2 0) < (rd x171000_2 1) then (rd x171000_2 1) else (rd x171000_2 0)) = ji35 := hji35
                        by_cases c36 : x8_1 < 0
                        · rw [if_pos c36] at H
                          have c36b0 : decide (x8_1 < 0) = true := decide_eq_true c36
                          clear c36
                          have H' := Aside0.mk H
                          clear H
                          have p30 : 0 ≤ (0 : Int) := (by omega)
                          have q30 : (0 : Int) < (2 : Int) := of_decide_eq_true (by first | (with_reducible assumption) | assumption)
                          replace p30 := eq_true p30
                          replace q30 := eq_true q30
                          have haz37 : wr.cell? ⟨gb170, 0, none⟩ = some (.int .i64 (rd x171000_2 0)) := arr_cell (by (with_reducible repeat (first | refine blk_drewN ?_ _ | refine blk_drew ?_ | refine blk_alloc ?_ _)); exact BK170.out) 0 _ (by omega) (of_decide_eq_true (by first | (with_reducible assumption) | assumption))
                          have p33 : 0 ≤ (1 : Int) := (by omega)
                          have q33 : (1 : Int) < (2 : Int) := of_decide_eq_true (by first | (with_reducible assumption) | assumption)
                          replace p33 := eq_true p33
                          replace q33 := eq_true q33
                          have haz38 : wr.cell? ⟨gb170, 1, none⟩ = some (.int .i64 (rd x171000_2 1)) := arr_cell (by (with_reducible repeat (first | refine blk_drewN ?_ _ | refine blk_drew ?_ | refine blk_alloc ?_ _)); exact BK170.out) 1 _ (by omega) (of_decide_eq_true (by first | (with_reducible assumption) | assumption))
                          go_wp2
                          go_roundg k2
                          case measure => have := HK1.out; have := HK2.out; omega
                          case rel => exact ⟨(x11_2), (ji35), (wrap64 (x28_1 + 1)), (by first | rfl | (simp; done) | (simp only [← hji35] <;> (first | rfl | simp)) | (simp [*]; done)), (by first | rfl | (simp; done) | (simp [*]; done)), H', ⟨by have := HK1.out; have := HK2.out; omega⟩, ⟨by (with_reducible repeat (first | apply Kd.R_alloc | apply Kd.R_drewN | apply Kd.R_drew)); exact Kd.R_mono HO_5.out (fun _ hk => hk.2)⟩, ⟨by (with_reducible repeat (first | apply Kd.R_alloc | apply Kd.R_drewN | apply Kd.R_drew)); exact Kd.R_mono HO_11.out (fun _ hk => hk.1)⟩, ⟨by repeat (first | (with_reducible first | exact HB.out | apply below_alloc | apply pw_below_drewN | apply below_drew1 | refine below_set ?_ GE170.out) | exact HB.out)⟩⟩
                        · rw [if_neg c36] at H
                          have c36b0 : decide (x8_1 < 0) = false := decide_eq_false c36
                          clear c36
                          by_cases c39 : (ji35) < x8_1
                          · rw [if_pos c39] at H
                            have c39b0 : decide ((ji35) < x8_1) = true := decide_eq_true c39
                            clear c39
                            have H' := Aside0.mk H
                            clear H
                            have p30 : 0 ≤ (0 : Int) := (by omega)
                            have q30 : (0 : Int) < (2 : Int) := of_decide_eq_true (by first | (with_reducible assumption) | assumption)
                            replace p30 := eq_true p30
                            replace q30 := eq_true q30
                            have haz40 : wr.cell? ⟨gb170, 0, none⟩ = some (.int .i64 (rd x171000_2 0)) := arr_cell (by (with_reducible repeat (first | refine blk_drewN ?_ _ | refine blk_drew ?_ | refine blk_alloc ?_ _)); exact BK170.out) 0 _ (by omega) (of_decide_eq_true (by first | (with_reducible assumption) | assumption))
                            have p33 : 0 ≤ (1 : Int) := (by omega)
                            have q33 : (1 : Int) < (2 : Int) := of_decide_eq_true (by first | (with_reducible assumption) | assumption)
                            replace p33 := eq_true p33
                            replace q33 := eq_true q33
                            have haz41 : wr.cell? ⟨gb170, 1, none⟩ = some (.int .i64 (rd x171000_2 1)) := arr_cell (by (with_reducible repeat (first | refine blk_drewN ?_ _ | refine blk_drew ?_ | refine blk_alloc ?_ _)); exact BK170.out) 1 _ (by omega) (of_decide_eq_true (by first | (with_reducible assumption) | assumption))
                            go_wp2
                            go_roundg k2
                            case measure => have := HK1.out; have := HK2.out; omega
                            case rel => exact ⟨(x11_2), (ji35), (wrap64 (x28_1 + 1)), (by first | rfl | (simp; done) | (simp only [← hji35] <;> (first | rfl | simp)) | (simp [*]; done)), (by first | rfl | (simp; done) | (simp [*]; done)), H', ⟨by have := HK1.out; have := HK2.out; omega⟩, ⟨by (with_reducible repeat (first | apply Kd.R_alloc | apply Kd.R_drewN | apply Kd.R_drew)); exact Kd.R_mono HO_5.out (fun _ hk => hk.2)⟩, ⟨by (with_reducible repeat (first | apply Kd.R_alloc | apply Kd.R_drewN | apply Kd.R_drew)); exact Kd.R_mono HO_11.out (fun _ hk => hk.1)⟩, ⟨by repeat (first | (with_reducible first | exact HB.out | apply below_alloc | apply pw_below_drewN | apply below_drew1 | refine below_set ?_ GE170.out) | exact HB.out)⟩⟩
                          · rw [if_neg c39] at H
                            have c39b0 : decide ((ji35) < x8_1) = false := decide_eq_false c39
                            clear c39
                            have H' := Aside0.mk H
                            clear H
                            have p30 : 0 ≤ (0 : Int) := (by omega)
                            have q30 : (0 : Int) < (2 : Int) := of_decide_eq_true (by first | (with_reducible assumption) | assumption)
                            replace p30 := eq_true p30
                            replace q30 := eq_true q30
                            have haz42 : wr.cell? ⟨gb170, 0, none⟩ = some (.int .i64 (rd x171000_2 0)) := arr_cell (by (with_reducible repeat (first | refine blk_drewN ?_ _ | refine blk_drew ?_ | refine blk_alloc ?_ _)); exact BK170.out) 0 _ (by omega) (of_decide_eq_true (by first | (with_reducible assumption) | assumption))
                            have p33 : 0 ≤ (1 : Int) := (by omega)
                            have q33 : (1 : Int) < (2 : Int) := of_decide_eq_true (by first | (with_reducible assumption) | assumption)
                            replace p33 := eq_true p33
                            replace q33 := eq_true q33
                            have haz43 : wr.cell? ⟨gb170, 1, none⟩ = some (.int .i64 (rd x171000_2 1)) := arr_cell (by (with_reducible repeat (first | refine blk_drewN ?_ _ | refine blk_drew ?_ | refine blk_alloc ?_ _)); exact BK170.out) 1 _ (by omega) (of_decide_eq_true (by first | (with_reducible assumption) | assumption))
                            go_wp2
                            go_roundg k2
                            case measure => have := HK1.out; have := HK2.out; omega
                            case rel => exact ⟨(x7_1), (x8_1), (wrap64 (x28_1 + 1)), (by first | rfl | (simp; done) | (simp [*]; done)), (by first | rfl | (simp; done) | (simp [*]; done)), H', ⟨by have := HK1.out; have := HK2.out; omega⟩, ⟨by (with_reducible repeat (first | apply Kd.R_alloc | apply Kd.R_drewN | apply Kd.R_drew)); exact Kd.R_mono HO_5.out (fun _ hk => hk.1)⟩, ⟨by (with_reducible repeat (first | apply Kd.R_alloc | apply Kd.R_drewN | apply Kd.R_drew)); exact Kd.R_mono HO_7.out (fun _ hk => hk.1)⟩, ⟨by repeat (first | (with_reducible first | exact HB.out | apply below_alloc | apply pw_below_drewN | apply below_drew1 | refine below_set ?_ GE170.out) | exact HB.out)⟩⟩
                      · rw [if_neg c34] at H
                        exact absurd H (by simp)
                    · rw [if_neg c32] at H
                      exact absurd H (by simp)
                  · rw [if_neg c31] at H
                    exact absurd H (by simp)
                · rw [if_neg c29] at H
                  exact absurd H (by simp)
        · rw [if_neg c9] at H
          have c9b0 : decide (x28_1 < ji4) = false := decide_eq_false c9
          clear c9
          simp only [Option.some.injEq, Prod.mk.injEq] at H
          obtain ⟨rfl, rfl, rfl⟩ := H
          go_wp2
          go_ret3
          exact ⟨_, by first | rfl | (simp [errW_none, errW_some] <;> rfl) | (simp only [← hji4]; first | rfl | (simp [errW_none, errW_some] <;> rfl)) | (simp [*, errW_none, errW_some] <;> rfl), by (with_reducible repeat (first | apply Kd.R_alloc | apply Kd.R_drewN | apply Kd.R_drew)); exact Kd.R_mono HO_7.out (fun _ hk => trivial), by repeat (first | (with_reducible first | exact HB.out | apply below_alloc | apply pw_below_drewN | apply below_drew1) | exact HB.out)⟩
  · rw [if_neg c3] at H
    have c3b0 : (t161 == 0) = false := beq_eq_false_iff_ne.mpr c3
    have c3b1 : (t161 != 0) = true := bne_iff_ne.mpr c3
    simp only [Option.some.injEq, Prod.mk.injEq] at H
    obtain ⟨rfl, rfl, rfl⟩ := H
    go_enter Try.func33, Try.ntmps33
    go_wp2_with (first | ((with_reducible refine gate_callee (f := 63) rfl ?_); refine goesL_ (some 18) rfl rfl Try.func63 (by kernel_rfl) rfl #[.slice A0 l0.length c0] rfl (by (try simp only [List.map_toArray, List.map_cons, List.map_nil]); first | done | rfl | (simp only [List.length_drop, List.length_take]; rfl)) ?_; (with_reducible refine (impl_weights.calls k _ _ l0 t160 t161 _ ?side1 ?side2 A2.out).mono ?_); (case side1 => repeat (first | exact HR0.out | (with_reducible refine Kd.C_alloc ?_ _) | (with_reducible refine Kd.C_drewN ?_ _) | (with_reducible refine Kd.C_drew ?_))); (case side2 => exact HC0.out); rintro e w44 ⟨v162, rfl, ho0, hb⟩; refine ⟨_, rfl, ?_⟩; have n0_ := Aside0.mk (Kd.R_lower ho0 (below_size (by repeat (first | (with_reducible first | exact HB.out | apply below_alloc | apply pw_below_drewN | apply below_drew1) | exact HB.out)))); have n1_ := Aside0.mk (below_step (by repeat (first | (with_reducible first | exact HB.out | apply below_alloc | apply pw_below_drewN | apply below_drew1) | exact HB.out)) hb); clear HB; have HO163 := n0_; have HB := n1_; clear n0_ n1_; (try clear hb); (try clear hb2); (try clear hk); (try clear hi); (try clear ho0)))
    go_ret3
    exact ⟨_, by first | rfl | (simp [errW_none, errW_some] <;> rfl) | (simp [*, errW_none, errW_some] <;> rfl), by first | exact Kd.R_nil _ _ _ _ _ | exact Kd.N_nil _ _ _ _ _ | exact Kd.V_nil _ _ _ _ _ | exact Kd.Q_nil _ _ _ _ _ | exact Kd.S_nil _ _ _ _ _, by repeat (first | (with_reducible first | exact HB.out | apply below_alloc | apply pw_below_drewN | apply below_drew1) | exact HB.out)⟩

end Go.Proofs.Ytpbobnpmiafbbaa.Q
