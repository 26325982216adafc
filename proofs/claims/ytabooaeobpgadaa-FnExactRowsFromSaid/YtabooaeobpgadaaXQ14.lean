-- By a program of this session's, out of the translation (with the kit's print). Lean checks it.
import Derived.Test.YtabooaeobpgadaaXQ0
namespace Go.Proofs.Ytabooaeobpgadaa.Q
open Go.RowKit Go.Proofs.YtabooaeobpgadaaW.PrintWords Go.Proofs.YtabooaeobpgadaaW.PrintLast Go.Proofs.YtabooaeobpgadaaW.PrintMore
attribute [local go_sem] max2_int min2_int max_two min_two max_three min_three max_four min_four
set_option linter.unusedVariables false
set_option linter.unusedSimpArgs false
mutual
def impl_fillings.l0 : Nat → List (S66) → Int → Int → List (List (S71)) → Int → Option ((List (List (S71))))
 | 0, _, _, _, _, _ => none
 | k + 1, x0, x1, x2, x7, x8 => if x8 ≥ 0 then (if 0 ≤ (wrap64 (x1 + 1)) then (if (wrap64 (x1 + 1) : Int).toNat ≤ 17592186044416 then (if 0 ≤ x8 then (if x8 < (x7.length : Int) then ((some (x7.set (x8 : Int).toNat (List.replicate (wrap64 (x1 + 1) : Int).toNat z71) : List (List (S71)))).bind fun y362 => (if x8 = (x0.length : Int) then (if 0 < ((rd_L7 y362 x8).length : Int) then (impl_fillings.l0 k x0 x1 x2 (y362.set (x8 : Int).toNat ((rd_L7 y362 x8).set (0 : Int).toNat (⟨1, 0⟩ : S71))) (wrap64 (x8 - 1))) else (none)) else (if x8 < (x0.length : Int) then (impl_fillings.l1 k x0 x1 x2 y362 x8 (wrap64 ((wrap64 ((rd_T66 x0 x8).f0)) + x2)) ((rd_L7 y362 x8).length : Int) 0) else (none)))) else (none)) else (none)) else (none)) else (none)) else (some x7)
def impl_fillings.l1 : Nat → List (S66) → Int → Int → List (List (S71)) → Int → Int → Int → Int → Option ((List (List (S71))))
 | 0, _, _, _, _, _, _, _, _ => none
 | k + 1, x0, x1, x2, x7, x8, x9, x52, x53 => if x53 < x52 then (impl_fillings.l2 k x0 x1 x2 x7 x8 x9 x53 0 x52 x53) else (impl_fillings.l0 k x0 x1 x2 x7 (wrap64 (x8 - 1)))
def impl_fillings.l2 : Nat → List (S66) → Int → Int → List (List (S71)) → Int → Int → Int → Int → Int → Int → Option ((List (List (S71))))
 | 0, _, _, _, _, _, _, _, _, _, _ => none
 | k + 1, x0, x1, x2, x7, x8, x9, x10, x11, x52, x53 => if 0 ≤ x8 then (if x8 < (x0.length : Int) then (if x11 ≤ (wrap64 ((rd_T66 x0 x8).f1)) then (if (wrap64 (x11 * x9)) ≤ x10 then (if 0 ≤ (wrap64 (x8 + 1)) then (if (wrap64 (x8 + 1)) < (x7.length : Int) then (if 0 ≤ (wrap64 (x10 - (wrap64 (x11 * x9)))) then (if (wrap64 (x10 - (wrap64 (x11 * x9)))) < ((rd_L7 x7 (wrap64 (x8 + 1))).length : Int) then (if ((rd_T71 (rd_L7 x7 (wrap64 (x8 + 1))) (wrap64 (x10 - (wrap64 (x11 * x9))))).f0) = 0 then (impl_fillings.l2 k x0 x1 x2 x7 x8 x9 x10 (wrap64 (x11 + 1)) x52 x53) else (if x8 < (x7.length : Int) then (if 0 ≤ x10 then (if x10 < ((rd_L7 x7 x8).length : Int) then (if ((rd_T71 (rd_L7 x7 x8) x10).f0) = 0 then ((some (x7.set (x8 : Int).toNat ((rd_L7 x7 x8).set (x10 : Int).toNat (⟨(rd_T71 (rd_L7 x7 x8) x10).f0, wrap64 (((rd_T71 (rd_L7 x7 (wrap64 (x8 + 1))) (wrap64 (x10 - (wrap64 (x11 * x9))))).f1) + x11)⟩ : S71)) : List (List (S71)))).bind fun y379 => (if x10 < ((rd_L7 y379 x8).length : Int) then (impl_fillings.l2 k x0 x1 x2 (y379.set (x8 : Int).toNat ((rd_L7 y379 x8).set (x10 : Int).toNat (⟨wrap64 (((rd_T71 (rd_L7 y379 x8) x10).f0) + ((rd_T71 (rd_L7 x7 (wrap64 (x8 + 1))) (wrap64 (x10 - (wrap64 (x11 * x9))))).f0)), (rd_T71 (rd_L7 y379 x8) x10).f1⟩ : S71))) x8 x9 x10 (wrap64 (x11 + 1)) x52 x53) else (none))) else (if (wrap64 (((rd_T71 (rd_L7 x7 (wrap64 (x8 + 1))) (wrap64 (x10 - (wrap64 (x11 * x9))))).f1) + x11)) < ((rd_T71 (rd_L7 x7 x8) x10).f1) then ((some (x7.set (x8 : Int).toNat ((rd_L7 x7 x8).set (x10 : Int).toNat (⟨(rd_T71 (rd_L7 x7 x8) x10).f0, wrap64 (((rd_T71 (rd_L7 x7 (wrap64 (x8 + 1))) (wrap64 (x10 - (wrap64 (x11 * x9))))).f1) + x11)⟩ : S71)) : List (List (S71)))).bind fun y388 => (if x10 < ((rd_L7 y388 x8).length : Int) then (impl_fillings.l2 k x0 x1 x2 (y388.set (x8 : Int).toNat ((rd_L7 y388 x8).set (x10 : Int).toNat (⟨wrap64 (((rd_T71 (rd_L7 y388 x8) x10).f0) + ((rd_T71 (rd_L7 x7 (wrap64 (x8 + 1))) (wrap64 (x10 - (wrap64 (x11 * x9))))).f0)), (rd_T71 (rd_L7 y388 x8) x10).f1⟩ : S71))) x8 x9 x10 (wrap64 (x11 + 1)) x52 x53) else (none))) else (impl_fillings.l2 k x0 x1 x2 (x7.set (x8 : Int).toNat ((rd_L7 x7 x8).set (x10 : Int).toNat (⟨wrap64 (((rd_T71 (rd_L7 x7 x8) x10).f0) + ((rd_T71 (rd_L7 x7 (wrap64 (x8 + 1))) (wrap64 (x10 - (wrap64 (x11 * x9))))).f0)), (rd_T71 (rd_L7 x7 x8) x10).f1⟩ : S71))) x8 x9 x10 (wrap64 (x11 + 1)) x52 x53))) else (none)) else (none)) else (none))) else (none)) else (none)) else (none)) else (none)) else (impl_fillings.l1 k x0 x1 x2 x7 x8 x9 x52 (wrap64 (x53 + 1)))) else (impl_fillings.l1 k x0 x1 x2 x7 x8 x9 x52 (wrap64 (x53 + 1)))) else (none)) else (none)
end
def impl_fillings.f (k : Nat) (l0 : List (S66)) (a1 : Int) (a2 : Int) : Option ((List (List (S71)))) := if 0 ≤ (wrap64 ((l0.length : Int) + 1)) then (if (wrap64 ((l0.length : Int) + 1) : Int).toNat ≤ 11728124029610 then (impl_fillings.l0 k l0 a1 a2 (List.replicate (wrap64 ((l0.length : Int) + 1) : Int).toNat []) (l0.length : Int)) else (none)) else (none)
theorem impl_fillings.mono_l : ∀ k, (∀ y0 y1 y2 y3 y4, LeO (impl_fillings.l0 k y0 y1 y2 y3 y4) (impl_fillings.l0 (k + 1) y0 y1 y2 y3 y4)) ∧ (∀ y0 y1 y2 y3 y4 y5 y6 y7, LeO (impl_fillings.l1 k y0 y1 y2 y3 y4 y5 y6 y7) (impl_fillings.l1 (k + 1) y0 y1 y2 y3 y4 y5 y6 y7)) ∧ (∀ y0 y1 y2 y3 y4 y5 y6 y7 y8 y9, LeO (impl_fillings.l2 k y0 y1 y2 y3 y4 y5 y6 y7 y8 y9) (impl_fillings.l2 (k + 1) y0 y1 y2 y3 y4 y5 y6 y7 y8 y9))
 | 0 => ⟨fun _ _ _ _ _ r h => by simp [impl_fillings.l0] at h, fun _ _ _ _ _ _ _ _ r h => by simp [impl_fillings.l1] at h, fun _ _ _ _ _ _ _ _ _ _ r h => by simp [impl_fillings.l2] at h⟩
 | k + 1 => by
  obtain ⟨ih0, ih1, ih2⟩ := impl_fillings.mono_l k
  refine ⟨?_, ?_, ?_⟩
  ·
   intro y0 y1 y2 y3 y4
   unfold impl_fillings.l0
   repeat' first
   | (with_reducible exact ih0 _ _ _ _ _)
   | (with_reducible exact ih1 _ _ _ _ _ _ _ _)
   | (with_reducible exact ih2 _ _ _ _ _ _ _ _ _ _)
   | (with_reducible exact LeO.refl _)
   | (with_reducible exact LeO.none _)
   | (with_reducible refine LeO.ite ?_ ?_)
   | (with_reducible refine LeO.bind ?_ (fun _ => ?_))
   | exact ih0 _ _ _ _ _
   | exact ih1 _ _ _ _ _ _ _ _
   | exact ih2 _ _ _ _ _ _ _ _ _ _
   | exact LeO.none _
   | refine LeO.ite ?_ ?_
   | refine LeO.bind ?_ (fun _ => ?_)
  ·
   intro y0 y1 y2 y3 y4 y5 y6 y7
   unfold impl_fillings.l1
   repeat' first
   | (with_reducible exact ih0 _ _ _ _ _)
   | (with_reducible exact ih1 _ _ _ _ _ _ _ _)
   | (with_reducible exact ih2 _ _ _ _ _ _ _ _ _ _)
   | (with_reducible exact LeO.refl _)
   | (with_reducible exact LeO.none _)
   | (with_reducible refine LeO.ite ?_ ?_)
   | (with_reducible refine LeO.bind ?_ (fun _ => ?_))
   | exact ih0 _ _ _ _ _
   | exact ih1 _ _ _ _ _ _ _ _
   | exact ih2 _ _ _ _ _ _ _ _ _ _
   | exact LeO.none _
   | refine LeO.ite ?_ ?_
   | refine LeO.bind ?_ (fun _ => ?_)
  ·
   intro y0 y1 y2 y3 y4 y5 y6 y7 y8 y9
   unfold impl_fillings.l2
   repeat' first
   | (with_reducible exact ih0 _ _ _ _ _)
   | (with_reducible exact ih1 _ _ _ _ _ _ _ _)
   | (with_reducible exact ih2 _ _ _ _ _ _ _ _ _ _)
   | (with_reducible exact LeO.refl _)
   | (with_reducible exact LeO.none _)
   | (with_reducible refine LeO.ite ?_ ?_)
   | (with_reducible refine LeO.bind ?_ (fun _ => ?_))
   | exact ih0 _ _ _ _ _
   | exact ih1 _ _ _ _ _ _ _ _
   | exact ih2 _ _ _ _ _ _ _ _ _ _
   | exact LeO.none _
   | refine LeO.ite ?_ ?_
   | refine LeO.bind ?_ (fun _ => ?_)
theorem impl_fillings.mono : ∀ a0 a1 a2 k, LeO (impl_fillings.f k a0 a1 a2) (impl_fillings.f (k + 1) a0 a1 a2) := by
 intro a0 a1 a2 k
 obtain ⟨ih0, ih1, ih2⟩ := impl_fillings.mono_l k
 unfold impl_fillings.f
 repeat' first
   | (with_reducible exact ih0 _ _ _ _ _)
   | (with_reducible exact ih1 _ _ _ _ _ _ _ _)
   | (with_reducible exact ih2 _ _ _ _ _ _ _ _ _ _)
   | (with_reducible exact LeO.refl _)
   | (with_reducible exact LeO.none _)
   | (with_reducible refine LeO.ite ?_ ?_)
   | (with_reducible refine LeO.bind ?_ (fun _ => ?_))
   | exact ih0 _ _ _ _ _
   | exact ih1 _ _ _ _ _ _ _ _
   | exact ih2 _ _ _ _ _ _ _ _ _ _
   | exact LeO.none _
   | refine LeO.ite ?_ ?_
   | refine LeO.bind ?_ (fun _ => ?_)
def impl_fillings.T19 : Bool × List (List Nat × List Nat) := (true, [([], []), ([], []), ([0, 1], [0, 1]), ([2], [2]), ([], []), ([], []), ([5], [5]), ([], []), ([6, 7], [6, 7]), ([3, 4, 0, 1, 2, 3, 4, 5, 6, 7, 8], [3, 4]), ([9, 0, 1, 2, 3, 4, 5, 6, 7, 8], [9]), ([10, 8, 0, 1, 2, 3, 4, 5, 6, 7, 8], [8, 10])])
def impl_fillings.B19 : List Nat := [0, 0, 3, 7, 0, 0, 32, 0, 224, 511, 1023, 2047]
theorem impl_fillings.tab19 : rtab .any (opsOf Try.f62 19) = impl_fillings.T19 := by kernel_rfl
theorem impl_fillings.bits19 : waitsOk impl_fillings.T19.2 impl_fillings.B19 = true := by kernel_rfl
def impl_fillings.T20 : Bool × List (List Nat × List Nat) := (true, [([], []), ([], []), ([0, 1], [0, 1]), ([2], [2]), ([], []), ([3, 4], [3, 4]), ([5], [5]), ([6], [6]), ([], []), ([8], [8]), ([7, 9], [7, 9]), ([3, 4, 0, 1, 2, 3, 4, 5, 6, 7, 8, 9, 10], [3, 4]), ([11, 0, 1, 2, 3, 4, 5, 6, 7, 8, 9, 10], [11]), ([12, 10, 0, 1, 2, 3, 4, 5, 6, 7, 8, 9, 10], [10, 12])])
def impl_fillings.B20 : List Nat := [0, 0, 3, 7, 0, 31, 63, 127, 0, 256, 1023, 2047, 4095, 8191]
theorem impl_fillings.tab20 : rtab .any (opsOf Try.f62 20) = impl_fillings.T20 := by kernel_rfl
theorem impl_fillings.bits20 : waitsOk impl_fillings.T20.2 impl_fillings.B20 = true := by kernel_rfl
set_option maxHeartbeats 8000000 in
set_option maxRecDepth 100000 in
theorem impl_fillings.calls (k : Nat) (A0 : Option Addr) (c0 : Nat) (l0 : List (S66)) (a1 : Int) (a2 : Int) (r : List (List (S71))) (w : World) (hr0 : Kd.C k66 w A0 l0.length l0) (hc0 : l0.length ≤ c0) (h : impl_fillings.f k l0 a1 a2 = some r) :
  Calls Try.prog 62 #[.slice A0 l0.length c0, .int .i64 a1, .int .i64 a2] w fun e w' => ∃ v0_ : Value, e = .returned (v0_) ∧ Kd.S (Kd.slice 71 k71) 72 w' w.heap.size (fun _ => True) v0_ r ∧ Below w.heap.size w w' := by
 have hu71 := Try.underlying71
 have HR0 := Aside0.mk hr0
 have HC0 := Aside0.mk hc0
 clear hr0 hc0
 have HB := Aside0.mk (Below.refl w.heap.size w)
 have H : (if 0 ≤ (wrap64 ((l0.length : Int) + 1)) then (if (wrap64 ((l0.length : Int) + 1) : Int).toNat ≤ 11728124029610 then (impl_fillings.l0 k l0 a1 a2 (List.replicate (wrap64 ((l0.length : Int) + 1) : Int).toNat []) (l0.length : Int)) else (none)) else (none)) = some r := h
 clear h
 obtain ⟨ji4, hji4⟩ : ∃ j_ : Int, (wrap64 ((l0.length : Int) + 1)) = j_ := ⟨_, rfl⟩
 replace H : (if 0 ≤ (ji4) then (if (ji4 : Int).toNat ≤ 11728124029610 then (impl_fillings.l0 k l0 a1 a2 (List.replicate (ji4 : Int).toNat []) (l0.length : Int)) else (none)) else (none)) = some r := by first | (rw [hji4] at H; exact H) | (simp only [hji4] at H ⊢; exact H)
 have hji4w : (IntKind.i64.wrap ((l0.length : Int) + 1)) = ji4 := (i64_w _).trans hji4
 by_cases c5 : 0 ≤ (ji4)
 ·
  rw [if_pos c5] at H
  have c5b0 := eq_true c5
  have c5b1 : decide (0 ≤ (ji4)) = true := decide_eq_true c5
  clear c5
  by_cases c6 : (ji4 : Int).toNat ≤ 11728124029610
  ·
   rw [if_pos c6] at H
   have c6b0 := eq_true c6
   have c6b1 : decide ((ji4 : Int).toNat ≤ 11728124029610) = true := decide_eq_true c6
   clear c6
   obtain ⟨y356, hy356⟩ : ∃ y_ : List (List (S71)), y_ = (List.replicate (ji4 : Int).toNat []) := ⟨_, rfl⟩
   replace H : (impl_fillings.l0 k l0 a1 a2 y356 (l0.length : Int)) = some r := by first | (rw [hy356]; with_reducible exact H) | (have H2_ := (Option.bind_some _ _).symm.trans H; rw [hy356]; with_reducible exact H2_) | (have H2_ := (Option.bind_some _ _).symm.trans H; with_reducible exact H2_) | with_reducible exact H | (rw [hy356]; exact H) | exact H
   have Ny356 := Aside0.mk hy356
   clear hy356
   have H' := Aside0.mk H
   clear H
   go_enter Try.func62, Try.ntmps62
   go_wp2_with (first | ((with_reducible refine gate_dst (N := 17) rfl ?_); refine Kd.S_make (Kd.slice 71 k71) _ 72 rfl (N := 17) rfl 73 _ _ rfl ji4 rfl rfl Try.underlying73 (.slice none 0 0) 24 info72 rfl (by decide) (by omega) [] (ok := fun _ => True) (okp := fun _ => True) ⟨_, rfl, Kd.R_nil _ _ _ _ _⟩ (fun _ hk => hk) trivial (of_decide_eq_true (by first | (with_reducible assumption) | assumption)) (Nat.le_trans (Nat.mul_le_mul_right _ (of_decide_eq_true (by first | (with_reducible assumption) | assumption) : ji4.toNat ≤ 11728124029610)) (by omega)) (Below.refl _ _) (Nat.le_refl _) ?_; intro v357 w7 ho8 hb hg_ hnew_; clear hg_ hnew_; (first | rw [← Ny356.out] at ho8 | (simp only [Int.reduceToNat] at ho8; rw [← Ny356.out] at ho8)); have n0_ := Aside0.mk (Kd.S_lower ho8 (below_size (by repeat (first | (with_reducible first | exact HB.out | apply below_alloc | apply pw_below_drewN | apply below_drew1) | exact HB.out)))); have n1_ := Aside0.mk (below_step (by repeat (first | (with_reducible first | exact HB.out | apply below_alloc | apply pw_below_drewN | apply below_drew1) | exact HB.out)) hb); clear HB; have HO358 := n0_; have HB := n1_; clear n0_ n1_; clear hb ho8))
   go_loopg [8] k (fun kq v8 w' => ∃ (x7_1 : List (List (S71))) (x8_1 : Int), v8 = .int .i64 x8_1 ∧ Aside0 (impl_fillings.l0 kq l0 a1 a2 x7_1 x8_1 = some r) ∧ Aside0 (kq ≤ k) ∧ Aside0 (Kd.S (Kd.slice 71 k71) 72 w' w.heap.size (fun _ => True) v357 x7_1) ∧ Aside0 (Below w.heap.size w w'))
   case atStart => exact ⟨(y356), ((l0.length : Int)), (by first | rfl | (simp; done) | (simp [*]; done)), H', ⟨Nat.le_refl _⟩, ⟨by (with_reducible repeat (first | apply Kd.S_alloc | apply Kd.S_drewN | apply Kd.S_drew)); exact HO358.out⟩, ⟨by repeat (first | (with_reducible first | exact HB.out | apply below_alloc | apply pw_below_drewN | apply below_drew1) | exact HB.out)⟩⟩
   case round =>
    clear H'
    try clear p2
    try clear c5
    try clear c5b0
    try clear c5b1
    try clear c6
    try clear c6b0
    try clear c6b1
    try clear p6
    obtain ⟨x7_1, x8_1, rfl, HA, HK1, HO_7, HB⟩ := hrel
    cases gk with
    | zero => exact absurd HA.out (by simp [impl_fillings.l0])
    | succ k1 =>
     have H := HA.out
     clear HA
     simp only [impl_fillings.l0] at H
     by_cases c9 : x8_1 ≥ 0
     ·
      rw [if_pos c9] at H
      have c9b0 : decide (0 ≤ x8_1) = true := decide_eq_true c9
      clear c9
      obtain ⟨ji10, hji10⟩ : ∃ j_ : Int, (wrap64 (a1 + 1)) = j_ := ⟨_, rfl⟩
      replace H : (if 0 ≤ (ji10) then (if (ji10 : Int).toNat ≤ 17592186044416 then (if 0 ≤ x8_1 then (if x8_1 < (x7_1.length : Int) then ((some (x7_1.set (x8_1 : Int).toNat (List.replicate (ji10 : Int).toNat z71) : List (List (S71)))).bind fun y362 => (if x8_1 = (l0.length : Int) then (if 0 < ((rd_L7 y362 x8_1).length : Int) then (impl_fillings.l0 k1 l0 a1 a2 (y362.set (x8_1 : Int).toNat ((rd_L7 y362 x8_1).set (0 : Int).toNat (⟨1, 0⟩ : S71))) (wrap64 (x8_1 - 1))) else (none)) else (if x8_1 < (l0.length : Int) then (impl_fillings.l1 k1 l0 a1 a2 y362 x8_1 (wrap64 ((wrap64 ((rd_T66 l0 x8_1).f0)) + a2)) ((rd_L7 y362 x8_1).length : Int) 0) else (none)))) else (none)) else (none)) else (none)) else (none)) = some r := by first | (rw [hji10] at H; exact H) | (simp only [hji10] at H ⊢; exact H)
      have hji10w : (IntKind.i64.wrap (a1 + 1)) = ji10 := (i64_w _).trans hji10
      by_cases c11 : 0 ≤ (ji10)
      ·
       rw [if_pos c11] at H
       have c11b0 := eq_true c11
       have c11b1 : decide (0 ≤ (ji10)) = true := decide_eq_true c11
       clear c11
       by_cases c12 : (ji10 : Int).toNat ≤ 17592186044416
       ·
        rw [if_pos c12] at H
        have c12b0 := eq_true c12
        have c12b1 : decide ((ji10 : Int).toNat ≤ 17592186044416) = true := decide_eq_true c12
        clear c12
        obtain ⟨y359, hy359⟩ : ∃ y_ : List (S71), y_ = (List.replicate (ji10 : Int).toNat z71) := ⟨_, rfl⟩
        replace H : (if 0 ≤ x8_1 then (if x8_1 < (x7_1.length : Int) then ((some (x7_1.set (x8_1 : Int).toNat y359 : List (List (S71)))).bind fun y362 => (if x8_1 = (l0.length : Int) then (if 0 < ((rd_L7 y362 x8_1).length : Int) then (impl_fillings.l0 k1 l0 a1 a2 (y362.set (x8_1 : Int).toNat ((rd_L7 y362 x8_1).set (0 : Int).toNat (⟨1, 0⟩ : S71))) (wrap64 (x8_1 - 1))) else (none)) else (if x8_1 < (l0.length : Int) then (impl_fillings.l1 k1 l0 a1 a2 y362 x8_1 (wrap64 ((wrap64 ((rd_T66 l0 x8_1).f0)) + a2)) ((rd_L7 y362 x8_1).length : Int) 0) else (none)))) else (none)) else (none)) = some r := by first | (rw [hy359]; with_reducible exact H) | (have H2_ := (Option.bind_some _ _).symm.trans H; rw [hy359]; with_reducible exact H2_) | (have H2_ := (Option.bind_some _ _).symm.trans H; with_reducible exact H2_) | with_reducible exact H | (rw [hy359]; exact H) | exact H
        have Ny359 := Aside0.mk hy359
        clear hy359
        by_cases c13 : 0 ≤ x8_1
        ·
         rw [if_pos c13] at H
         have c13b0 : decide (0 ≤ x8_1) = true := decide_eq_true c13
         clear c13
         by_cases c14 : x8_1 < (x7_1.length : Int)
         ·
          rw [if_pos c14] at H
          have c14b0 : decide (x8_1 < (x7_1.length : Int)) = true := decide_eq_true c14
          clear c14
          obtain ⟨y362, hy362⟩ : ∃ y_ : List (List (S71)), y_ = (x7_1.set (x8_1 : Int).toNat y359) := ⟨_, rfl⟩
          replace H : (if x8_1 = (l0.length : Int) then (if 0 < ((rd_L7 y362 x8_1).length : Int) then (impl_fillings.l0 k1 l0 a1 a2 (y362.set (x8_1 : Int).toNat ((rd_L7 y362 x8_1).set (0 : Int).toNat (⟨1, 0⟩ : S71))) (wrap64 (x8_1 - 1))) else (none)) else (if x8_1 < (l0.length : Int) then (impl_fillings.l1 k1 l0 a1 a2 y362 x8_1 (wrap64 ((wrap64 ((rd_T66 l0 x8_1).f0)) + a2)) ((rd_L7 y362 x8_1).length : Int) 0) else (none))) = some r := by first | (rw [hy362]; with_reducible exact H) | (have H2_ := (Option.bind_some _ _).symm.trans H; rw [hy362]; with_reducible exact H2_) | (have H2_ := (Option.bind_some _ _).symm.trans H; with_reducible exact H2_) | with_reducible exact H | (rw [hy362]; exact H) | exact H
          have Ny362 := Aside0.mk hy362
          clear hy362
          by_cases c16 : x8_1 = (l0.length : Int)
          ·
           rw [if_pos c16] at H
           have c16b0 : (x8_1 == (l0.length : Int)) = true := beq_iff_eq.mpr c16
           have c16b1 : (x8_1 != (l0.length : Int)) = false := bne_eq_false_iff_eq.mpr c16
           clear c16
           by_cases c17 : 0 < ((rd_L7 y362 x8_1).length : Int)
           ·
            rw [if_pos c17] at H
            have c17b0 : decide (0 < ((rd_L7 y362 x8_1).length : Int)) = true := decide_eq_true c17
            have c17b1 : decide (0 < (rd_L7 y362 x8_1).length) = true := decide_eq_true (by omega)
            clear c17
            obtain ⟨y364, hy364⟩ : ∃ y_ : List (S71), y_ = ((rd_L7 y362 x8_1).set (0 : Int).toNat (⟨1, 0⟩ : S71)) := ⟨_, rfl⟩
            replace H : (impl_fillings.l0 k1 l0 a1 a2 (y362.set (x8_1 : Int).toNat y364) (wrap64 (x8_1 - 1))) = some r := by first | (rw [hy364]; with_reducible exact H) | (have H2_ := (Option.bind_some _ _).symm.trans H; rw [hy364]; with_reducible exact H2_) | (have H2_ := (Option.bind_some _ _).symm.trans H; with_reducible exact H2_) | with_reducible exact H | (rw [hy364]; exact H) | exact H
            have Ny364 := Aside0.mk hy364
            clear hy364
            obtain ⟨y366, hy366⟩ : ∃ y_ : List (List (S71)), y_ = (y362.set (x8_1 : Int).toNat y364) := ⟨_, rfl⟩
            replace H : (impl_fillings.l0 k1 l0 a1 a2 y366 (wrap64 (x8_1 - 1))) = some r := by first | (rw [hy366]; with_reducible exact H) | (have H2_ := (Option.bind_some _ _).symm.trans H; rw [hy366]; with_reducible exact H2_) | (have H2_ := (Option.bind_some _ _).symm.trans H; with_reducible exact H2_) | with_reducible exact H | (rw [hy366]; exact H) | exact H
            have Ny366 := Aside0.mk hy366
            clear hy366
            have H' := Aside0.mk H
            clear H
            go_wp2_with (first | ((with_reducible refine gate_dst (N := 28) rfl ?_); refine Kd.R_make k71 _ 71 rfl (N := 28) rfl 72 _ _ rfl ji10 rfl rfl Try.underlying72 (.agg #[(.int .i64 0), (.int .i64 0)]) 16 info71 rfl (by decide) (by omega) z71 (ok := fun _ => True) (okp := fun _ => True) (k71_mkM _ _ _ z71 ) (fun _ hk => hk) trivial (of_decide_eq_true (by first | (with_reducible assumption) | assumption)) (Nat.le_trans (Nat.mul_le_mul_right _ (of_decide_eq_true (by first | (with_reducible assumption) | assumption) : ji10.toNat ≤ 17592186044416)) (by omega)) (Below.refl _ _) (Nat.le_refl _) ?_; intro v360 w19 ho20 hb hg_ hnew_; clear hg_ hnew_; (first | rw [← Ny359.out] at ho20 | (simp only [Int.reduceToNat] at ho20; rw [← Ny359.out] at ho20)); have n0_ := Aside0.mk (Kd.S_elder' (by (with_reducible repeat (first | apply Kd.S_alloc | apply Kd.S_drewN | apply Kd.S_drew)); exact HO_7.out) (Kd.R_base ho20) hb); have n1_ := Aside0.mk (Kd.R_lower ho20 (below_size (by repeat (first | (with_reducible first | exact HB.out | apply below_alloc | apply pw_below_drewN | apply below_drew1) | exact HB.out)))); have n2_ := Aside0.mk (below_step (by repeat (first | (with_reducible first | exact HB.out | apply below_alloc | apply pw_below_drewN | apply below_drew1) | exact HB.out)) hb); clear HO_7; clear HB; have HO_7 := n0_; have HO361 := n1_; have HB := n2_; clear n0_ n1_ n2_; clear hb ho20; have p15 : 0 ≤ (x8_1 : Int) := of_decide_eq_true (by first | (with_reducible assumption) | assumption); have q15 : (x8_1 : Int) < ((x7_1.length : Int) : Int) := of_decide_eq_true (by first | (with_reducible assumption) | assumption); obtain ⟨go15, co15, eo15, gb15, gl15, cl15, HG15⟩ := Kd.S_form HO_7.out (by omega); (first | cases eo15 | (injection eo15 with ea_ en_ ec_; (first | subst ea_ | (injection ea_ with ea_; subst ea_)); subst ec_; clear en_)); have GB15 := Aside0.mk gb15; have GG15 := Aside0.mk HG15; clear gb15 gl15 HG15; obtain ⟨_, ce15, hcl15, hM15, hcc15, hfr15, _, _⟩ := Kd.S_elem HO_7.out [] (x8_1 : Int) p15 q15; obtain ⟨ve15_0, rfl, ge15_0⟩ := hM15; have hx15_0 := hcc15 0 _ rfl; have hf15_0 := hfr15 0; (try simp only [show ((Kd.slice 71 k71)).sz = 1 from rfl, Nat.mul_one, Nat.add_zero] at hx15_0); (try simp only [show ((Kd.slice 71 k71)).sz = 1 from rfl, Nat.mul_one, Nat.add_zero] at hf15_0); clear hcl15 hcc15 hfr15; (try clear hM15); replace p15 := eq_true p15; replace q15 := eq_true q15; obtain ⟨Ao21, co21, eo21⟩ := Kd.R_slice HO361.out; subst eo21; have n_ := Aside0.mk (Kd.S_mono (ok' := (fun k_ => some k_ ≠ (.slice Ao21 y359.length co21 : Value).ownBlock)) HO_7.out (fun k_ hk => hk.2)); clear HO_7; have HO_7 := n_; clear n_; have HX22 := Aside0.mk (show Kd.S (Kd.slice 71 k71) 72 w19 w.heap.size (fun k_ => ((fun _ => True)) k_ ∧ ¬ ((fun k_ => some k_ = (.slice Ao21 y359.length co21 : Value).ownBlock)) k_) (.slice (some ⟨go15, 0, none⟩) x7_1.length co15) x7_1 from (by (with_reducible repeat (first | apply Kd.S_alloc | apply Kd.S_drewN | apply Kd.S_drew)); exact Kd.S_mono HO_7.out (fun k_ hk => ⟨trivial, fun e_ => hk e_⟩))); obtain ⟨oki22, ce22, hcl22, hM22, hcc22, hfr22, hoki22, hH22⟩ := Kd.S_elem HX22.out [] (x8_1 : Int) (of_decide_eq_true (by first | (with_reducible assumption) | assumption)) (by have h_ : (x8_1 : Int) < ((x7_1.length : Int) : Int) := of_decide_eq_true (by first | (with_reducible assumption) | assumption); first | exact h_ | (have e_ := (Kd.S_reads' HO_7.out).1; omega) | simpa using h_); obtain ⟨ve22_0, rfl, ge22_0⟩ := hM22; have HP22 := Kd.S_seg hH22 (of_decide_eq_true (by first | (with_reducible assumption) | assumption)) (by have h_ : (x8_1 : Int) < ((x7_1.length : Int) : Int) := of_decide_eq_true (by first | (with_reducible assumption) | assumption); first | exact h_ | (have e_ := (Kd.S_reads' HO_7.out).1; omega) | simpa using h_) (seg := [.slice Ao21 y359.length co21]) (j := 0) (show 1 ≤ 1 from by decide) (x' := y359) (Kd.M_row (Kd.R_mono (Kd.R_tight rfl (Kd.R_mono (ok' := fun k_ => ((fun _ => True)) k_ ∧ k_ ≠ go15) (Kd.R_apart' (HO361.out) (Kd.S_typed HO_7.out) (by decide)) (fun k_ hk => ⟨trivial, fun e_ => (hk.2) (by rw [e_]; rfl)⟩))) (fun _ h_ => Or.inr (h_)))) (fun _ hk => hk) (fun k_ hk_ => ((Kd.R_mono (ok' := fun k_ => ((fun _ => True)) k_ ∧ k_ ≠ go15) (Kd.R_apart' (HO361.out) (Kd.S_typed HO_7.out) (by decide)) (fun k_ hk => ⟨trivial, fun e_ => (hk.2) (by rw [e_]; rfl)⟩))).1 k_ hk_.symm); have hx22_0 := hcc22 0 _ rfl; (try simp only [show ((Kd.slice 71 k71)).sz = 1 from rfl, Nat.mul_one, Nat.add_zero] at hx22_0); have hf22_0 := hfr22 0; (try simp only [show ((Kd.slice 71 k71)).sz = 1 from rfl, Nat.mul_one, Nat.add_zero] at hf22_0); clear hcl22 hcc22 hfr22; (try clear hM22); clear hoki22 hH22; (try simp only [show ((Kd.slice 71 k71)).sz = 1 from rfl, Nat.mul_one, Nat.add_zero] at HP22)) | ((with_reducible refine gate_store (t := 72) (p := 29) rfl ?_); refine store_event (t := 72) (p := 29) (v := ?vo_w23) (w1 := (w19.setCell ⟨go15, (x8_1 : Int).toNat, none⟩ (.slice Ao21 y359.length co21))) ?hg ?ho ?hn ?hr ?_; (case ho => rfl); (case hg => rfl); (case hn => rfl); (case hr => first | (go_simp; done) | (go_simp; rfl)); intro w23 hw; have hg : w19.grownBy w23 (some go15) := (by rw [hw]; exact HP22.2); have hp_ : Kd.S (Kd.slice 71 k71) 72 w23 w.heap.size (fun _ => True) (.slice (some ⟨go15, 0, none⟩) x7_1.length co15) y362 := (by rw [hw, Ny362.out]; exact HP22.1); clear HP22; have n0_ := Aside0.mk (hp_); have n1_ := Aside0.mk ((by rw [hw]; exact below_set (HB.out) GB15.out : Below w.heap.size w w23)); clear HO_7; clear HB; clear HO361; have HO_7 := n0_; have HB := n1_; clear n0_ n1_; clear hg hw hp_; have p363 : 0 ≤ (x8_1 : Int) := of_decide_eq_true (by first | (with_reducible assumption) | assumption); have q363 : x8_1 < (y362.length : Int) := (by have h_ : (x8_1 : Int) < ((x7_1.length : Int) : Int) := of_decide_eq_true (by first | (with_reducible assumption) | assumption); first | (have e_ := (Kd.S_reads' HO_7.out).1; omega) | simpa only [Ny362.out, List.length_set] using h_); have ql363 : ((x8_1 : Int) < ((x7_1.length : Int) : Int)) = True := eq_true (of_decide_eq_true (by first | (with_reducible assumption) | assumption)); obtain ⟨ad363, A363_0, c363_0, e363, hx363_0, hl363_0, hi363_0⟩ := at_L7 (Kd.S_reads' HO_7.out).2.2 x8_1 p363 q363; obtain rfl : (⟨go15, 0, none⟩ : Addr) = ad363 := (by injection e363); obtain ⟨ce363, hce363, hMe363, hcc363⟩ := Kd.S_get HO_7.out [] x8_1 p363 (by first | exact q363 | exact of_decide_eq_true (by first | (with_reducible assumption) | assumption) | (have e_ := (Kd.S_reads' HO_7.out).1; omega)); obtain ⟨ve363_0, rfl, ge363_0⟩ := hMe363; have hv363_0 := hcc363 0 _ rfl; rw [Nat.add_zero, show ((Kd.slice 71 k71)).sz = 1 from rfl, Nat.mul_one] at hv363_0; replace hv363_0 := Option.some.inj (hv363_0.symm.trans hx363_0); rw [hv363_0] at ge363_0; have HL363_0 := Aside0.mk (show Kd.R k71 71 _ _ _ _ (rd_L7 y362 x8_1) from ge363_0); clear hv363_0 ge363_0; have HX363_0 := Aside0.mk hx363_0; clear hcc363 hce363; (first | simp only [add_plain] at hx363_0 | simp only [add_at] at hx363_0 | simp only [Addr.add, Nat.zero_add] at hx363_0 | skip); have HR363_0 := Aside0.mk hi363_0; have HC363_0 := Aside0.mk hl363_0; clear hi363_0 hl363_0; replace p363 := eq_true p363; replace q363 := eq_true q363; have p18 : 0 ≤ (0 : Int) := (by omega); have q18 : (0 : Int) < (((rd_L7 y362 x8_1).length : Int) : Int) := of_decide_eq_true (by first | (with_reducible assumption) | assumption); have qi18 : (0 < (rd_L7 y362 x8_1).length) = True := eq_true (by omega); obtain ⟨go18, co18, eo18, gb18, gl18, cl18, HG18⟩ := Kd.R_form HL363_0.out (by omega); (first | cases eo18 | (injection eo18 with ea_ en_ ec_; (first | subst ea_ | (injection ea_ with ea_; subst ea_)); subst ec_; clear en_)); have GB18 := Aside0.mk gb18; have GG18 := Aside0.mk HG18; clear gb18 gl18 HG18; obtain ⟨ce18, hcl18, hM18, hcc18, hfr18⟩ := Kd.R_elem HL363_0.out z71 (0 : Int) p18 q18; obtain rfl := k71_openM hM18; have hx18_0 : w23.cell? ⟨go18, (0 : Int).toNat * 2, none⟩ = some (.int .i64 ((rd_T71 (rd_L7 y362 x8_1) 0).f0)) := hcc18 0 _ rfl; have hx18_1 : w23.cell? ⟨go18, (0 : Int).toNat * 2 + 1, none⟩ = some (.int .i64 ((rd_T71 (rd_L7 y362 x8_1) 0).f1)) := hcc18 1 _ rfl; have hf18_0 : w23.frozen? ⟨go18, (0 : Int).toNat * 2, none⟩ = false := hfr18 0; have hf18_1 : w23.frozen? ⟨go18, (0 : Int).toNat * 2 + 1, none⟩ = false := hfr18 1; clear hcl18 hcc18 hfr18; (try clear hM18); (try rw [show ((0 : Int)).toNat = 0 from rfl] at hx18_0); (try simp only [Nat.reduceMul, Nat.zero_mul, Nat.zero_add, Nat.reduceAdd] at hx18_0); (try rw [show ((0 : Int)).toNat = 0 from rfl] at hf18_0); (try simp only [Nat.reduceMul, Nat.zero_mul, Nat.zero_add, Nat.reduceAdd] at hf18_0); (try rw [show ((0 : Int)).toNat = 0 from rfl] at hx18_1); (try simp only [Nat.reduceMul, Nat.zero_mul, Nat.zero_add, Nat.reduceAdd] at hx18_1); (try rw [show ((0 : Int)).toNat = 0 from rfl] at hf18_1); (try simp only [Nat.reduceMul, Nat.zero_mul, Nat.zero_add, Nat.reduceAdd] at hf18_1); replace p18 := eq_true p18; replace q18 := eq_true q18; have hq24 : (x8_1 : Int) < (y362.length : Int) := (by have h_ : (x8_1 : Int) < ((x7_1.length : Int) : Int) := of_decide_eq_true (by first | (with_reducible assumption) | assumption); first | exact h_ | (have e_ := (Kd.S_reads' HO_7.out).1; omega) | simpa only [Ny362.out, List.length_set] using h_); obtain ⟨oki24, ce24, hcl24, hM24, hcc24, hok24, hbk24⟩ := Kd.S_borrow HO_7.out [] (x8_1 : Int) (of_decide_eq_true (by first | (with_reducible assumption) | assumption)) (by first | exact hq24 | (have e_ := (Kd.S_reads' HO_7.out).1; omega)); obtain ⟨ve24_0, rfl, ge24_0⟩ := hM24; have hv24 := hcc24 0 _ rfl; rw [Nat.add_zero, show ((Kd.slice 71 k71)).sz = 1 from rfl, Nat.mul_one] at hv24; replace hv24 := Option.some.inj (hv24.symm.trans HX363_0.out); subst hv24; clear hcc24 hcl24; replace ge24_0 := (show Kd.R k71 71 _ _ _ _ (rd_L7 y362 x8_1) from ge24_0); obtain ⟨cf24, hcl24, hN24, hcc24, hfr24⟩ := Kd.R_elem ge24_0 z71 (0 : Int) (by omega) (by have h_ : (0 : Int) < (((rd_L7 y362 x8_1).length : Int) : Int) := of_decide_eq_true (by first | (with_reducible assumption) | assumption); first | exact h_ | (have e_ := (Kd.R_reads' HR363_0.out).1; omega) | simpa using h_); obtain rfl := k71_openM hN24; have HP24 := Kd.R_seg ge24_0 (0 : Int) (by omega) (by have h_ : (0 : Int) < (((rd_L7 y362 x8_1).length : Int) : Int) := of_decide_eq_true (by first | (with_reducible assumption) | assumption); first | exact h_ | (have e_ := (Kd.R_reads' HR363_0.out).1; omega) | simpa using h_) (seg := [.int .i64 1, .int .i64 0]) (j := 0) hcl24 hcc24 (show 2 ≤ 2 from by decide) (x' := (⟨1, 0⟩ : S71)) (k71_mkM _ _ _ (⟨1, 0⟩ : S71)) (fun _ hk => hk); clear hcl24 hcc24 hfr24; (try clear hN24)) | ((with_reducible refine gate_store (t := 71) (p := 39) rfl ?_); refine store_event (t := 71) (p := 39) (v := ?vo_w25) (w1 := ((w23.setCell ⟨go18, 0, none⟩ (.int .i64 1)).setCell ⟨go18, 1, none⟩ (.int .i64 0))) ?hg ?ho ?hn ?hr ?_; (case ho => rfl); (case hg => rfl); (case hn => rfl); (case hr => first | (go_simp; done) | (go_simp; rfl)); intro w25 hw; have hg : w23.grownBy w25 (some go18) := (by rw [hw]; exact HP24.2); have hz_ : Kd.R k71 71 w25 w.heap.size oki24 (.slice (some ⟨go18, 0, none⟩) (rd_L7 y362 x8_1).length c363_0) y364 := (by rw [hw, Ny364.out]; exact HP24.1); have hp_ : Kd.S (Kd.slice 71 k71) 72 w25 w.heap.size (fun _ => True) (.slice (some ⟨go15, 0, none⟩) x7_1.length co15) y366 := (by rw [Ny366.out]; exact hbk24 hg (fun k_ e_ => by injection e_ with e_; subst e_; exact ge24_0.1 _ rfl) (Kd.M_row hz_)); have hm_ := Kd.R_mono hz_ hok24; clear HP24 hbk24; have n0_ := Aside0.mk (hp_); have n1_ := Aside0.mk ((by rw [hw]; exact below_set (below_set (HB.out) GB18.out) GB18.out : Below w.heap.size w w25)); have n2_ := Aside0.mk (hm_); have n3_ := Aside0.mk ((Kd.R_reads' hm_).2.1); clear HO_7; clear HB; clear HL363_0; have HO_7 := n0_; have HB := n1_; have HL399 := n2_; have HC365 := n3_; clear n0_ n1_ n2_ n3_; clear hg hw hp_ hz_ hm_ hok24))
            go_roundg k1
            case measure => have := HK1.out; omega
            case rel => exact ⟨(y366), (wrap64 (x8_1 - 1)), (by first | rfl | (simp; done) | (simp [*]; done)), H', ⟨by have := HK1.out; omega⟩, ⟨by (with_reducible repeat (first | apply Kd.S_alloc | apply Kd.S_drewN | apply Kd.S_drew)); exact HO_7.out⟩, ⟨by repeat (first | (with_reducible first | exact HB.out | apply below_alloc | apply pw_below_drewN | apply below_drew1) | exact HB.out)⟩⟩
           ·
            rw [if_neg c17] at H
            exact absurd H (by simp)
          ·
           rw [if_neg c16] at H
           have c16b0 : (x8_1 == (l0.length : Int)) = false := beq_eq_false_iff_ne.mpr c16
           have c16b1 : (x8_1 != (l0.length : Int)) = true := bne_iff_ne.mpr c16
           by_cases c26 : x8_1 < (l0.length : Int)
           ·
            rw [if_pos c26] at H
            have c26b0 : decide (x8_1 < (l0.length : Int)) = true := decide_eq_true c26
            clear c26
            have H' := Aside0.mk H
            clear H
            go_wp2_with (first | ((with_reducible refine gate_dst (N := 28) rfl ?_); refine Kd.R_make k71 _ 71 rfl (N := 28) rfl 72 _ _ rfl ji10 rfl rfl Try.underlying72 (.agg #[(.int .i64 0), (.int .i64 0)]) 16 info71 rfl (by decide) (by omega) z71 (ok := fun _ => True) (okp := fun _ => True) (k71_mkM _ _ _ z71 ) (fun _ hk => hk) trivial (of_decide_eq_true (by first | (with_reducible assumption) | assumption)) (Nat.le_trans (Nat.mul_le_mul_right _ (of_decide_eq_true (by first | (with_reducible assumption) | assumption) : ji10.toNat ≤ 17592186044416)) (by omega)) (Below.refl _ _) (Nat.le_refl _) ?_; intro v360 w27 ho28 hb hg_ hnew_; clear hg_ hnew_; (first | rw [← Ny359.out] at ho28 | (simp only [Int.reduceToNat] at ho28; rw [← Ny359.out] at ho28)); have n0_ := Aside0.mk (Kd.S_elder' (by (with_reducible repeat (first | apply Kd.S_alloc | apply Kd.S_drewN | apply Kd.S_drew)); exact HO_7.out) (Kd.R_base ho28) hb); have n1_ := Aside0.mk (Kd.R_lower ho28 (below_size (by repeat (first | (with_reducible first | exact HB.out | apply below_alloc | apply pw_below_drewN | apply below_drew1) | exact HB.out)))); have n2_ := Aside0.mk (below_step (by repeat (first | (with_reducible first | exact HB.out | apply below_alloc | apply pw_below_drewN | apply below_drew1) | exact HB.out)) hb); clear HO_7; clear HB; have HO_7 := n0_; have HO361 := n1_; have HB := n2_; clear n0_ n1_ n2_; clear hb ho28; have p15 : 0 ≤ (x8_1 : Int) := of_decide_eq_true (by first | (with_reducible assumption) | assumption); have q15 : (x8_1 : Int) < ((x7_1.length : Int) : Int) := of_decide_eq_true (by first | (with_reducible assumption) | assumption); obtain ⟨go15, co15, eo15, gb15, gl15, cl15, HG15⟩ := Kd.S_form HO_7.out (by omega); (first | cases eo15 | (injection eo15 with ea_ en_ ec_; (first | subst ea_ | (injection ea_ with ea_; subst ea_)); subst ec_; clear en_)); have GB15 := Aside0.mk gb15; have GG15 := Aside0.mk HG15; clear gb15 gl15 HG15; obtain ⟨_, ce15, hcl15, hM15, hcc15, hfr15, _, _⟩ := Kd.S_elem HO_7.out [] (x8_1 : Int) p15 q15; obtain ⟨ve15_0, rfl, ge15_0⟩ := hM15; have hx15_0 := hcc15 0 _ rfl; have hf15_0 := hfr15 0; (try simp only [show ((Kd.slice 71 k71)).sz = 1 from rfl, Nat.mul_one, Nat.add_zero] at hx15_0); (try simp only [show ((Kd.slice 71 k71)).sz = 1 from rfl, Nat.mul_one, Nat.add_zero] at hf15_0); clear hcl15 hcc15 hfr15; (try clear hM15); replace p15 := eq_true p15; replace q15 := eq_true q15; obtain ⟨Ao29, co29, eo29⟩ := Kd.R_slice HO361.out; subst eo29; have n_ := Aside0.mk (Kd.S_mono (ok' := (fun k_ => some k_ ≠ (.slice Ao29 y359.length co29 : Value).ownBlock)) HO_7.out (fun k_ hk => hk.2)); clear HO_7; have HO_7 := n_; clear n_; have HX30 := Aside0.mk (show Kd.S (Kd.slice 71 k71) 72 w27 w.heap.size (fun k_ => ((fun _ => True)) k_ ∧ ¬ ((fun k_ => some k_ = (.slice Ao29 y359.length co29 : Value).ownBlock)) k_) (.slice (some ⟨go15, 0, none⟩) x7_1.length co15) x7_1 from (by (with_reducible repeat (first | apply Kd.S_alloc | apply Kd.S_drewN | apply Kd.S_drew)); exact Kd.S_mono HO_7.out (fun k_ hk => ⟨trivial, fun e_ => hk e_⟩))); obtain ⟨oki30, ce30, hcl30, hM30, hcc30, hfr30, hoki30, hH30⟩ := Kd.S_elem HX30.out [] (x8_1 : Int) (of_decide_eq_true (by first | (with_reducible assumption) | assumption)) (by have h_ : (x8_1 : Int) < ((x7_1.length : Int) : Int) := of_decide_eq_true (by first | (with_reducible assumption) | assumption); first | exact h_ | (have e_ := (Kd.S_reads' HO_7.out).1; omega) | simpa using h_); obtain ⟨ve30_0, rfl, ge30_0⟩ := hM30; have HP30 := Kd.S_seg hH30 (of_decide_eq_true (by first | (with_reducible assumption) | assumption)) (by have h_ : (x8_1 : Int) < ((x7_1.length : Int) : Int) := of_decide_eq_true (by first | (with_reducible assumption) | assumption); first | exact h_ | (have e_ := (Kd.S_reads' HO_7.out).1; omega) | simpa using h_) (seg := [.slice Ao29 y359.length co29]) (j := 0) (show 1 ≤ 1 from by decide) (x' := y359) (Kd.M_row (Kd.R_mono (Kd.R_tight rfl (Kd.R_mono (ok' := fun k_ => ((fun _ => True)) k_ ∧ k_ ≠ go15) (Kd.R_apart' (HO361.out) (Kd.S_typed HO_7.out) (by decide)) (fun k_ hk => ⟨trivial, fun e_ => (hk.2) (by rw [e_]; rfl)⟩))) (fun _ h_ => Or.inr (h_)))) (fun _ hk => hk) (fun k_ hk_ => ((Kd.R_mono (ok' := fun k_ => ((fun _ => True)) k_ ∧ k_ ≠ go15) (Kd.R_apart' (HO361.out) (Kd.S_typed HO_7.out) (by decide)) (fun k_ hk => ⟨trivial, fun e_ => (hk.2) (by rw [e_]; rfl)⟩))).1 k_ hk_.symm); have hx30_0 := hcc30 0 _ rfl; (try simp only [show ((Kd.slice 71 k71)).sz = 1 from rfl, Nat.mul_one, Nat.add_zero] at hx30_0); have hf30_0 := hfr30 0; (try simp only [show ((Kd.slice 71 k71)).sz = 1 from rfl, Nat.mul_one, Nat.add_zero] at hf30_0); clear hcl30 hcc30 hfr30; (try clear hM30); clear hoki30 hH30; (try simp only [show ((Kd.slice 71 k71)).sz = 1 from rfl, Nat.mul_one, Nat.add_zero] at HP30)) | ((with_reducible refine gate_store (t := 72) (p := 29) rfl ?_); refine store_event (t := 72) (p := 29) (v := ?vo_w31) (w1 := (w27.setCell ⟨go15, (x8_1 : Int).toNat, none⟩ (.slice Ao29 y359.length co29))) ?hg ?ho ?hn ?hr ?_; (case ho => rfl); (case hg => rfl); (case hn => rfl); (case hr => first | (go_simp; done) | (go_simp; rfl)); intro w31 hw; have hg : w27.grownBy w31 (some go15) := (by rw [hw]; exact HP30.2); have hp_ : Kd.S (Kd.slice 71 k71) 72 w31 w.heap.size (fun _ => True) (.slice (some ⟨go15, 0, none⟩) x7_1.length co15) y362 := (by rw [hw, Ny362.out]; exact HP30.1); clear HP30; have n0_ := Aside0.mk (hp_); have n1_ := Aside0.mk ((by rw [hw]; exact below_set (HB.out) GB15.out : Below w.heap.size w w31)); clear HO_7; clear HB; clear HO361; have HO_7 := n0_; have HB := n1_; clear n0_ n1_; clear hg hw hp_; have p367 : 0 ≤ (x8_1 : Int) := of_decide_eq_true (by first | (with_reducible assumption) | assumption); have q367 : x8_1 < (l0.length : Int) := of_decide_eq_true (by first | (with_reducible assumption) | assumption); obtain ⟨ad367, e367, hx367_0, hx367_1⟩ := at_T66 HR0.out x8_1 p367 q367; cases e367; replace hx367_0 := (HB.out.cell (World.block_lt_of_cell? w _ hx367_0)).trans hx367_0; replace hx367_1 := (HB.out.cell (World.block_lt_of_cell? w _ hx367_1)).trans hx367_1; replace p367 := eq_true p367; replace q367 := eq_true q367; have p368 : 0 ≤ (x8_1 : Int) := of_decide_eq_true (by first | (with_reducible assumption) | assumption); have q368 : x8_1 < (y362.length : Int) := (by have h_ : (x8_1 : Int) < ((x7_1.length : Int) : Int) := of_decide_eq_true (by first | (with_reducible assumption) | assumption); first | (have e_ := (Kd.S_reads' HO_7.out).1; omega) | simpa only [Ny362.out, List.length_set] using h_); have ql368 : ((x8_1 : Int) < ((x7_1.length : Int) : Int)) = True := eq_true (of_decide_eq_true (by first | (with_reducible assumption) | assumption)); obtain ⟨ad368, A368_0, c368_0, e368, hx368_0, hl368_0, hi368_0⟩ := at_L7 (Kd.S_reads' HO_7.out).2.2 x8_1 p368 q368; obtain rfl : (⟨go15, 0, none⟩ : Addr) = ad368 := (by injection e368); obtain ⟨ce368, hce368, hMe368, hcc368⟩ := Kd.S_get HO_7.out [] x8_1 p368 (by first | exact q368 | exact of_decide_eq_true (by first | (with_reducible assumption) | assumption) | (have e_ := (Kd.S_reads' HO_7.out).1; omega)); obtain ⟨ve368_0, rfl, ge368_0⟩ := hMe368; have hv368_0 := hcc368 0 _ rfl; rw [Nat.add_zero, show ((Kd.slice 71 k71)).sz = 1 from rfl, Nat.mul_one] at hv368_0; replace hv368_0 := Option.some.inj (hv368_0.symm.trans hx368_0); rw [hv368_0] at ge368_0; have HL368_0 := Aside0.mk (show Kd.R k71 71 _ _ _ _ (rd_L7 y362 x8_1) from ge368_0); clear hv368_0 ge368_0; have HX368_0 := Aside0.mk hx368_0; clear hcc368 hce368; (first | simp only [add_plain] at hx368_0 | simp only [add_at] at hx368_0 | simp only [Addr.add, Nat.zero_add] at hx368_0 | skip); have HR368_0 := Aside0.mk hi368_0; have HC368_0 := Aside0.mk hl368_0; clear hi368_0 hl368_0; replace p368 := eq_true p368; replace q368 := eq_true q368))
            go_loopg [53] k1 (fun kq v53 w' => ∃ (x7_2 : List (List (S71))) (x53_2 : Int), v53 = .int .i64 x53_2 ∧ Aside0 (impl_fillings.l1 kq l0 a1 a2 x7_2 x8_1 (wrap64 ((wrap64 ((rd_T66 l0 x8_1).f0)) + a2)) ((rd_L7 y362 x8_1).length : Int) x53_2 = some r) ∧ Aside0 (kq ≤ k1) ∧ Aside0 (Kd.S (Kd.slice 71 k71) 72 w' w.heap.size (fun _ => True) (.slice (some ⟨go15, 0, none⟩) x7_1.length co15) x7_2) ∧ Aside0 (Below w.heap.size w w'))
            case atStart => exact ⟨(y362), (0), (by first | rfl | (simp; done) | (simp [*]; done)), H', ⟨Nat.le_refl _⟩, ⟨by (with_reducible repeat (first | apply Kd.S_alloc | apply Kd.S_drewN | apply Kd.S_drew)); exact HO_7.out⟩, ⟨by repeat (first | (with_reducible first | exact HB.out | apply below_alloc | apply pw_below_drewN | apply below_drew1) | exact HB.out)⟩⟩
            case round =>
             clear H'
             try clear c1
             try clear p1
             try clear q1
             try clear hx1
             try clear qi1
             try clear c2
             try clear p2
             try clear q2
             try clear hx2
             try clear c3
             try clear p3
             try clear q3
             try clear hx3
             try clear hf3
             try clear c5
             try clear c5b0
             try clear c5b1
             try clear c6
             try clear c6b0
             try clear c6b1
             try clear p6
             try clear c9
             try clear c9b0
             try clear c11
             try clear c11b0
             try clear c11b1
             try clear c12
             try clear c12b0
             try clear c12b1
             try clear c13
             try clear c13b0
             try clear c14
             try clear c14b0
             try clear c15
             try clear p15
             try clear q15
             try clear hx15
             try clear hf15
             try clear c16
             try clear c16b0
             try clear c16b1
             try clear c17
             try clear c17b0
             try clear c17b1
             try clear c18
             try clear p18
             try clear q18
             try clear hx18
             try clear qi18
             try clear hf18
             try clear c22
             try clear hx22
             try clear hf22
             try clear c24
             try clear q24
             try clear c26
             try clear c26b0
             try clear c30
             try clear hx30
             try clear hf30
             try clear hx15_0
             try clear hx18_0
             try clear hx18_1
             try clear hx22_0
             try clear hx30_0
             try clear hx363_0
             try clear hx367_0
             try clear hx367_1
             try clear hx368_0
             try clear p15
             try clear p18
             try clear p2
             try clear p363
             try clear p367
             try clear p368
             try clear p6
             try clear q15
             try clear q18
             try clear q363
             try clear q367
             try clear q368
             obtain ⟨x7_2, x53_2, rfl, HA, HK2, HO_7, HB⟩ := hrel
             have hl7_2 := (Kd.S_reads' HO_7.out).1
             rw [hl7_2] at HO_7
             (try simp only [hl7_2])
             cases gk with
             | zero => exact absurd HA.out (by simp [impl_fillings.l1])
             | succ k2 =>
              have H := HA.out
              clear HA
              simp only [impl_fillings.l1] at H
              by_cases c32 : x53_2 < ((rd_L7 y362 x8_1).length : Int)
              ·
               rw [if_pos c32] at H
               have c32b0 : decide (x53_2 < ((rd_L7 y362 x8_1).length : Int)) = true := decide_eq_true c32
               clear c32
               have H' := Aside0.mk H
               clear H
               go_wp2
               go_loopg [11] k2 (fun kq v11 w' => ∃ (x7_3 : List (List (S71))) (x11_3 : Int), v11 = .int .i64 x11_3 ∧ Aside0 (impl_fillings.l2 kq l0 a1 a2 x7_3 x8_1 (wrap64 ((wrap64 ((rd_T66 l0 x8_1).f0)) + a2)) x53_2 x11_3 ((rd_L7 y362 x8_1).length : Int) x53_2 = some r) ∧ Aside0 (kq ≤ k2) ∧ Aside0 (Kd.S (Kd.slice 71 k71) 72 w' w.heap.size (fun _ => True) (.slice (some ⟨go15, 0, none⟩) x7_2.length co15) x7_3) ∧ Aside0 (Below w.heap.size w w'))
               case atStart => exact ⟨(x7_2), (0), (by first | rfl | (simp; done) | (simp [*]; done)), H', ⟨Nat.le_refl _⟩, ⟨by (try simp only [hl7_2]); (with_reducible repeat (first | apply Kd.S_alloc | apply Kd.S_drewN | apply Kd.S_drew)); exact HO_7.out⟩, ⟨by repeat (first | (with_reducible first | exact HB.out | apply below_alloc | apply pw_below_drewN | apply below_drew1) | exact HB.out)⟩⟩
               case round =>
                clear H'
                try clear c1
                try clear p1
                try clear q1
                try clear hx1
                try clear qi1
                try clear c2
                try clear p2
                try clear q2
                try clear hx2
                try clear c3
                try clear p3
                try clear q3
                try clear hx3
                try clear hf3
                try clear c5
                try clear c5b0
                try clear c5b1
                try clear c6
                try clear c6b0
                try clear c6b1
                try clear p6
                try clear c9
                try clear c9b0
                try clear c11
                try clear c11b0
                try clear c11b1
                try clear c12
                try clear c12b0
                try clear c12b1
                try clear c13
                try clear c13b0
                try clear c14
                try clear c14b0
                try clear c15
                try clear p15
                try clear q15
                try clear hx15
                try clear hf15
                try clear c16
                try clear c16b0
                try clear c16b1
                try clear c17
                try clear c17b0
                try clear c17b1
                try clear c18
                try clear p18
                try clear q18
                try clear hx18
                try clear qi18
                try clear hf18
                try clear c22
                try clear hx22
                try clear hf22
                try clear c24
                try clear q24
                try clear c26
                try clear c26b0
                try clear c30
                try clear hx30
                try clear hf30
                try clear c32
                try clear c32b0
                try clear hx15_0
                try clear hx18_0
                try clear hx18_1
                try clear hx22_0
                try clear hx30_0
                try clear hx363_0
                try clear hx367_0
                try clear hx367_1
                try clear hx368_0
                try clear p1
                try clear p15
                try clear p18
                try clear p2
                try clear p3
                try clear p363
                try clear p367
                try clear p368
                try clear p6
                try clear q1
                try clear q15
                try clear q18
                try clear q2
                try clear q24
                try clear q3
                try clear q363
                try clear q367
                try clear q368
                obtain ⟨x7_3, x11_3, rfl, HA, HK3, HO_7, HB⟩ := hrel
                have hl7_3 := (Kd.S_reads' HO_7.out).1
                rw [hl7_3] at HO_7
                (try simp only [hl7_3])
                cases gk with
                | zero => exact absurd HA.out (by simp [impl_fillings.l2])
                | succ k3 =>
                 have H := HA.out
                 clear HA
                 simp only [impl_fillings.l2] at H
                 by_cases c33 : 0 ≤ x8_1
                 ·
                  rw [if_pos c33] at H
                  have c33b0 : decide (0 ≤ x8_1) = true := decide_eq_true c33
                  clear c33
                  by_cases c34 : x8_1 < (l0.length : Int)
                  ·
                   rw [if_pos c34] at H
                   have c34b0 : decide (x8_1 < (l0.length : Int)) = true := decide_eq_true c34
                   clear c34
                   by_cases c35 : x11_3 ≤ (wrap64 ((rd_T66 l0 x8_1).f1))
                   ·
                    rw [if_pos c35] at H
                    have c35b0 : decide (x11_3 ≤ (wrap64 ((rd_T66 l0 x8_1).f1))) = true := decide_eq_true c35
                    clear c35
                    by_cases c36 : (wrap64 (x11_3 * (wrap64 ((wrap64 ((rd_T66 l0 x8_1).f0)) + a2)))) ≤ x53_2
                    ·
                     rw [if_pos c36] at H
                     have c36b0 : decide ((wrap64 (x11_3 * (wrap64 ((wrap64 ((rd_T66 l0 x8_1).f0)) + a2)))) ≤ x53_2) = true := decide_eq_true c36
                     clear c36
                     obtain ⟨ji37, hji37⟩ : ∃ j_ : Int, (wrap64 (x8_1 + 1)) = j_ := ⟨_, rfl⟩
                     replace H : (if 0 ≤ (ji37) then (if (ji37) < (x7_3.length : Int) then (if 0 ≤ (wrap64 (x53_2 - (wrap64 (x11_3 * (wrap64 ((wrap64 ((rd_T66 l0 x8_1).f0)) + a2)))))) then (if (wrap64 (x53_2 - (wrap64 (x11_3 * (wrap64 ((wrap64 ((rd_T66 l0 x8_1).f0)) + a2)))))) < ((rd_L7 x7_3 (ji37)).length : Int) then (if ((rd_T71 (rd_L7 x7_3 (ji37)) (wrap64 (x53_2 - (wrap64 (x11_3 * (wrap64 ((wrap64 ((rd_T66 l0 x8_1).f0)) + a2))))))).f0) = 0 then (impl_fillings.l2 k3 l0 a1 a2 x7_3 x8_1 (wrap64 ((wrap64 ((rd_T66 l0 x8_1).f0)) + a2)) x53_2 (wrap64 (x11_3 + 1)) ((rd_L7 y362 x8_1).length : Int) x53_2) else (if x8_1 < (x7_3.length : Int) then (if 0 ≤ x53_2 then (if x53_2 < ((rd_L7 x7_3 x8_1).length : Int) then (if ((rd_T71 (rd_L7 x7_3 x8_1) x53_2).f0) = 0 then ((some (x7_3.set (x8_1 : Int).toNat ((rd_L7 x7_3 x8_1).set (x53_2 : Int).toNat (⟨(rd_T71 (rd_L7 x7_3 x8_1) x53_2).f0, wrap64 (((rd_T71 (rd_L7 x7_3 (ji37)) (wrap64 (x53_2 - (wrap64 (x11_3 * (wrap64 ((wrap64 ((rd_T66 l0 x8_1).f0)) + a2))))))).f1) + x11_3)⟩ : S71)) : List (List (S71)))).bind fun y379 => (if x53_2 < ((rd_L7 y379 x8_1).length : Int) then (impl_fillings.l2 k3 l0 a1 a2 (y379.set (x8_1 : Int).toNat ((rd_L7 y379 x8_1).set (x53_2 : Int).toNat (⟨wrap64 (((rd_T71 (rd_L7 y379 x8_1) x53_2).f0) + ((rd_T71 (rd_L7 x7_3 (ji37)) (wrap64 (x53_2 - (wrap64 (x11_3 * (wrap64 ((wrap64 ((rd_T66 l0 x8_1).f0)) + a2))))))).f0)), (rd_T71 (rd_L7 y379 x8_1) x53_2).f1⟩ : S71))) x8_1 (wrap64 ((wrap64 ((rd_T66 l0 x8_1).f0)) + a2)) x53_2 (wrap64 (x11_3 + 1)) ((rd_L7 y362 x8_1).length : Int) x53_2) else (none))) else (if (wrap64 (((rd_T71 (rd_L7 x7_3 (ji37)) (wrap64 (x53_2 - (wrap64 (x11_3 * (wrap64 ((wrap64 ((rd_T66 l0 x8_1).f0)) + a2))))))).f1) + x11_3)) < ((rd_T71 (rd_L7 x7_3 x8_1) x53_2).f1) then ((some (x7_3.set (x8_1 : Int).toNat ((rd_L7 x7_3 x8_1).set (x53_2 : Int).toNat (⟨(rd_T71 (rd_L7 x7_3 x8_1) x53_2).f0, wrap64 (((rd_T71 (rd_L7 x7_3 (ji37)) (wrap64 (x53_2 - (wrap64 (x11_3 * (wrap64 ((wrap64 ((rd_T66 l0 x8_1).f0)) + a2))))))).f1) + x11_3)⟩ : S71)) : List (List (S71)))).bind fun y388 => (if x53_2 < ((rd_L7 y388 x8_1).length : Int) then (impl_fillings.l2 k3 l0 a1 a2 (y388.set (x8_1 : Int).toNat ((rd_L7 y388 x8_1).set (x53_2 : Int).toNat (⟨wrap64 (((rd_T71 (rd_L7 y388 x8_1) x53_2).f0) + ((rd_T71 (rd_L7 x7_3 (ji37)) (wrap64 (x53_2 - (wrap64 (x11_3 * (wrap64 ((wrap64 ((rd_T66 l0 x8_1).f0)) + a2))))))).f0)), (rd_T71 (rd_L7 y388 x8_1) x53_2).f1⟩ : S71))) x8_1 (wrap64 ((wrap64 ((rd_T66 l0 x8_1).f0)) + a2)) x53_2 (wrap64 (x11_3 + 1)) ((rd_L7 y362 x8_1).length : Int) x53_2) else (none))) else (impl_fillings.l2 k3 l0 a1 a2 (x7_3.set (x8_1 : Int).toNat ((rd_L7 x7_3 x8_1).set (x53_2 : Int).toNat (⟨wrap64 (((rd_T71 (rd_L7 x7_3 x8_1) x53_2).f0) + ((rd_T71 (rd_L7 x7_3 (ji37)) (wrap64 (x53_2 - (wrap64 (x11_3 * (wrap64 ((wrap64 ((rd_T66 l0 x8_1).f0)) + a2))))))).f0)), (rd_T71 (rd_L7 x7_3 x8_1) x53_2).f1⟩ : S71))) x8_1 (wrap64 ((wrap64 ((rd_T66 l0 x8_1).f0)) + a2)) x53_2 (wrap64 (x11_3 + 1)) ((rd_L7 y362 x8_1).length : Int) x53_2))) else (none)) else (none)) else (none))) else (none)) else (none)) else (none)) else (none)) = some r := by first | (rw [hji37] at H; exact H) | (simp only [hji37] at H ⊢; exact H)
                     have hji37w : (IntKind.i64.wrap (x8_1 + 1)) = ji37 := (i64_w _).trans hji37
                     by_cases c38 : 0 ≤ (ji37)
                     ·
                      rw [if_pos c38] at H
                      have c38b0 : decide (0 ≤ (ji37)) = true := decide_eq_true c38
                      clear c38
                      by_cases c39 : (ji37) < (x7_3.length : Int)
                      ·
                       rw [if_pos c39] at H
                       have c39b0 : decide ((ji37) < (x7_3.length : Int)) = true := decide_eq_true c39
                       clear c39
                       obtain ⟨ji40, hji40⟩ : ∃ j_ : Int, (wrap64 (x53_2 - (wrap64 (x11_3 * (wrap64 ((wrap64 ((rd_T66 l0 x8_1).f0)) + a2)))))) = j_ := ⟨_, rfl⟩
                       replace H : (if 0 ≤ (ji40) then (if (ji40) < ((rd_L7 x7_3 (ji37)).length : Int) then (if ((rd_T71 (rd_L7 x7_3 (ji37)) (ji40)).f0) = 0 then (impl_fillings.l2 k3 l0 a1 a2 x7_3 x8_1 (wrap64 ((wrap64 ((rd_T66 l0 x8_1).f0)) + a2)) x53_2 (wrap64 (x11_3 + 1)) ((rd_L7 y362 x8_1).length : Int) x53_2) else (if x8_1 < (x7_3.length : Int) then (if 0 ≤ x53_2 then (if x53_2 < ((rd_L7 x7_3 x8_1).length : Int) then (if ((rd_T71 (rd_L7 x7_3 x8_1) x53_2).f0) = 0 then ((some (x7_3.set (x8_1 : Int).toNat ((rd_L7 x7_3 x8_1).set (x53_2 : Int).toNat (⟨(rd_T71 (rd_L7 x7_3 x8_1) x53_2).f0, wrap64 (((rd_T71 (rd_L7 x7_3 (ji37)) (ji40)).f1) + x11_3)⟩ : S71)) : List (List (S71)))).bind fun y379 => (if x53_2 < ((rd_L7 y379 x8_1).length : Int) then (impl_fillings.l2 k3 l0 a1 a2 (y379.set (x8_1 : Int).toNat ((rd_L7 y379 x8_1).set (x53_2 : Int).toNat (⟨wrap64 (((rd_T71 (rd_L7 y379 x8_1) x53_2).f0) + ((rd_T71 (rd_L7 x7_3 (ji37)) (ji40)).f0)), (rd_T71 (rd_L7 y379 x8_1) x53_2).f1⟩ : S71))) x8_1 (wrap64 ((wrap64 ((rd_T66 l0 x8_1).f0)) + a2)) x53_2 (wrap64 (x11_3 + 1)) ((rd_L7 y362 x8_1).length : Int) x53_2) else (none))) else (if (wrap64 (((rd_T71 (rd_L7 x7_3 (ji37)) (ji40)).f1) + x11_3)) < ((rd_T71 (rd_L7 x7_3 x8_1) x53_2).f1) then ((some (x7_3.set (x8_1 : Int).toNat ((rd_L7 x7_3 x8_1).set (x53_2 : Int).toNat (⟨(rd_T71 (rd_L7 x7_3 x8_1) x53_2).f0, wrap64 (((rd_T71 (rd_L7 x7_3 (ji37)) (ji40)).f1) + x11_3)⟩ : S71)) : List (List (S71)))).bind fun y388 => (if x53_2 < ((rd_L7 y388 x8_1).length : Int) then (impl_fillings.l2 k3 l0 a1 a2 (y388.set (x8_1 : Int).toNat ((rd_L7 y388 x8_1).set (x53_2 : Int).toNat (⟨wrap64 (((rd_T71 (rd_L7 y388 x8_1) x53_2).f0) + ((rd_T71 (rd_L7 x7_3 (ji37)) (ji40)).f0)), (rd_T71 (rd_L7 y388 x8_1) x53_2).f1⟩ : S71))) x8_1 (wrap64 ((wrap64 ((rd_T66 l0 x8_1).f0)) + a2)) x53_2 (wrap64 (x11_3 + 1)) ((rd_L7 y362 x8_1).length : Int) x53_2) else (none))) else (impl_fillings.l2 k3 l0 a1 a2 (x7_3.set (x8_1 : Int).toNat ((rd_L7 x7_3 x8_1).set (x53_2 : Int).toNat (⟨wrap64 (((rd_T71 (rd_L7 x7_3 x8_1) x53_2).f0) + ((rd_T71 (rd_L7 x7_3 (ji37)) (ji40)).f0)), (rd_T71 (rd_L7 x7_3 x8_1) x53_2).f1⟩ : S71))) x8_1 (wrap64 ((wrap64 ((rd_T66 l0 x8_1).f0)) + a2)) x53_2 (wrap64 (x11_3 + 1)) ((rd_L7 y362 x8_1).length : Int) x53_2))) else (none)) else (none)) else (none))) else (none)) else (none)) = some r := by first | (rw [hji40] at H; exact H) | (simp only [hji40] at H ⊢; exact H)
                       have hji40w : (IntKind.i64.wrap (x53_2 - (wrap64 (x11_3 * (wrap64 ((wrap64 ((rd_T66 l0 x8_1).f0)) + a2)))))) = ji40 := (i64_w _).trans hji40
                       by_cases c41 : 0 ≤ (ji40)
                       ·
                        rw [if_pos c41] at H
                        have c41b0 : decide (0 ≤ (ji40)) = true := decide_eq_true c41
                        clear c41
                        by_cases c42 : (ji40) < ((rd_L7 x7_3 (ji37)).length : Int)
                        ·
                         rw [if_pos c42] at H
                         have c42b0 : decide ((ji40) < ((rd_L7 x7_3 (ji37)).length : Int)) = true := decide_eq_true c42
                         clear c42
                         by_cases c43 : ((rd_T71 (rd_L7 x7_3 (ji37)) (ji40)).f0) = 0
                         ·
                          rw [if_pos c43] at H
                          have c43b0 : (((rd_T71 (rd_L7 x7_3 (ji37)) (ji40)).f0) == 0) = true := beq_iff_eq.mpr c43
                          have c43b1 : (((rd_T71 (rd_L7 x7_3 (ji37)) (ji40)).f0) != 0) = false := bne_eq_false_iff_eq.mpr c43
                          clear c43
                          have H' := Aside0.mk H
                          clear H
                          have p369 : 0 ≤ (x8_1 : Int) := of_decide_eq_true (by first | (with_reducible assumption) | assumption)
                          have q369 : x8_1 < (l0.length : Int) := of_decide_eq_true (by first | (with_reducible assumption) | assumption)
                          obtain ⟨ad369, e369, hx369_0, hx369_1⟩ := at_T66 HR0.out x8_1 p369 q369
                          obtain rfl : ad367 = ad369 := (by injection e369)
                          replace hx369_0 := (HB.out.cell (World.block_lt_of_cell? w _ hx369_0)).trans hx369_0
                          replace hx369_1 := (HB.out.cell (World.block_lt_of_cell? w _ hx369_1)).trans hx369_1
                          replace p369 := eq_true p369
                          replace q369 := eq_true q369
                          have p370 : 0 ≤ ((ji37) : Int) := of_decide_eq_true (by first | (with_reducible assumption) | assumption)
                          have q370 : (ji37) < (x7_3.length : Int) := of_decide_eq_true (by first | (with_reducible assumption) | assumption)
                          obtain ⟨ad370, A370_0, c370_0, e370, hx370_0, hl370_0, hi370_0⟩ := at_L7 (Kd.S_reads' HO_7.out).2.2 (ji37) p370 q370
                          obtain rfl : (⟨go15, 0, none⟩ : Addr) = ad370 := (by injection e370)
                          obtain ⟨ce370, hce370, hMe370, hcc370⟩ := Kd.S_get HO_7.out [] (ji37) p370 (by first | exact q370 | exact of_decide_eq_true (by first | (with_reducible assumption) | assumption) | (have e_ := (Kd.S_reads' HO_7.out).1; omega))
                          obtain ⟨ve370_0, rfl, ge370_0⟩ := hMe370
                          have hv370_0 := hcc370 0 _ rfl
                          rw [Nat.add_zero, show ((Kd.slice 71 k71)).sz = 1 from rfl, Nat.mul_one] at hv370_0
                          replace hv370_0 := Option.some.inj (hv370_0.symm.trans hx370_0)
                          rw [hv370_0] at ge370_0
                          have HL370_0 := Aside0.mk (show Kd.R k71 71 _ _ _ _ (rd_L7 x7_3 (ji37)) from ge370_0)
                          clear hv370_0 ge370_0
                          have HX370_0 := Aside0.mk hx370_0
                          clear hcc370 hce370
                          (first | simp only [add_plain] at hx370_0 | simp only [add_at] at hx370_0 | simp only [Addr.add, Nat.zero_add] at hx370_0 | skip)
                          have HR370_0 := Aside0.mk hi370_0
                          have HC370_0 := Aside0.mk hl370_0
                          clear hi370_0 hl370_0
                          replace p370 := eq_true p370
                          replace q370 := eq_true q370
                          have p371 : 0 ≤ ((ji40) : Int) := of_decide_eq_true (by first | (with_reducible assumption) | assumption)
                          have q371 : (ji40) < ((rd_L7 x7_3 (ji37)).length : Int) := of_decide_eq_true (by first | (with_reducible assumption) | assumption)
                          obtain ⟨ad371, e371, hx371_0, hx371_1⟩ := at_T71 (by repeat (first | (with_reducible exact HR370_0.out) | (with_reducible refine Kd.C_alloc ?_ _) | (with_reducible refine Kd.C_drewN ?_ _) | (with_reducible refine Kd.C_drew ?_) | exact HR370_0.out)) (ji40) p371 q371
                          cases e371
                          replace p371 := eq_true p371
                          replace q371 := eq_true q371
                          go_wp2_with (first | ((with_reducible refine gate_dst (N := 12) rfl ?_); refine box_event ?hg (N := 12) ?hd (cs := #[.int .i64 0, .int .i64 0]) (t := 71) ?hr ?_; (case hd => rfl); (case hg => rfl); (case hr => first | (go_simp; done) | (go_simp; rfl)); intro gb372 hg w44 hbox hb; have n0_ := Aside0.mk (Kd.S_below (Kd.S_elderB (by (with_reducible repeat (first | apply Kd.S_alloc | apply Kd.S_drewN | apply Kd.S_drew)); exact HO_7.out) gb372 (Nat.le_of_eq hg.symm)) hb); have n1_ := Aside0.mk (Kd.R_below (Kd.R_elderB (by (with_reducible repeat (first | apply Kd.R_alloc | apply Kd.R_drewN | apply Kd.R_drew)); exact HL370_0.out) gb372 (Nat.le_of_eq hg.symm)) hb); have n2_ := Aside0.mk (Kd.C_below (by repeat (first | (with_reducible exact HR370_0.out) | (with_reducible refine Kd.C_alloc ?_ _) | (with_reducible refine Kd.C_drewN ?_ _) | (with_reducible refine Kd.C_drew ?_) | exact HR370_0.out)) hb); have n3_ := Aside0.mk (pw_cell_below hb HX370_0.out); have n4_ := Aside0.mk (below_step (by repeat (first | (with_reducible first | exact HB.out | apply below_alloc | apply pw_below_drewN | apply below_drew1) | exact HB.out)) hb); have n5_ := Aside0.mk (hbox); have n6_ := Aside0.mk ((by rw [hg]; exact (below_size (by repeat (first | (with_reducible first | exact HB.out | apply below_alloc | apply pw_below_drewN | apply below_drew1) | exact HB.out))) : w.heap.size ≤ gb372)); have n7_ := Aside0.mk ((by rw [hg]; exact (below_size (by repeat (first | (with_reducible first | exact HB.out | apply below_alloc | apply pw_below_drewN | apply below_drew1) | exact HB.out))) : w.heap.size ≤ gb372)); clear HO_7; clear HL370_0; clear HR370_0; clear HX370_0; clear HB; have HO_7 := n0_; have HL370_0 := n1_; have HR370_0 := n2_; have HX370_0 := n3_; have HB := n4_; have BK372 := n5_; have GW372 := n6_; have GE372 := n7_; clear n0_ n1_ n2_ n3_ n4_ n5_ n6_ n7_; clear hb hbox hg; have hcz45_0 : w44.cell? ⟨gb372, 0, none⟩ = some (.int .i64 0) := (blk_cell BK372.out 0).trans rfl; have hcz45_1 : w44.cell? ⟨gb372, 1, none⟩ = some (.int .i64 0) := (blk_cell BK372.out 1).trans rfl; have hfz45_0 := blk_frozen BK372.out 0; have hfz45_1 := blk_frozen BK372.out 1))
                          (try simp only [← hl7_3])
                          go_roundg k3
                          case measure => have := HK1.out; have := HK2.out; have := HK3.out; omega
                          case rel => exact ⟨(x7_3), (wrap64 (x11_3 + 1)), (by first | rfl | (simp; done) | (simp [*]; done)), H', ⟨by have := HK1.out; have := HK2.out; have := HK3.out; omega⟩, ⟨by (try simp only [hl7_2]); (try simp only [hl7_3]); (with_reducible repeat (first | apply Kd.S_alloc | apply Kd.S_drewN | apply Kd.S_drew)); exact Kd.S_mono (Kd.S_far (p := ⟨gb372, 1, none⟩) (Kd.S_far (p := ⟨gb372, 0, none⟩) (Kd.S_mono HO_7.out (fun k_ hk => (⟨hk, hk.2⟩ : _ ∧ k_ ≠ gb372))) (fun _ hk => hk.2) (.int .i64 ((rd_T71 (rd_L7 x7_3 (ji37)) (ji40)).f0))) (fun _ hk => hk.2) (.int .i64 ((rd_T71 (rd_L7 x7_3 (ji37)) (ji40)).f1))) (fun _ hk => trivial)⟩, ⟨by repeat (first | (with_reducible first | exact HB.out | apply below_alloc | apply pw_below_drewN | apply below_drew1 | refine below_set ?_ GE372.out) | exact HB.out)⟩⟩
                         ·
                          rw [if_neg c43] at H
                          have c43b0 : (((rd_T71 (rd_L7 x7_3 (ji37)) (ji40)).f0) == 0) = false := beq_eq_false_iff_ne.mpr c43
                          have c43b1 : (((rd_T71 (rd_L7 x7_3 (ji37)) (ji40)).f0) != 0) = true := bne_iff_ne.mpr c43
                          by_cases c46 : x8_1 < (x7_3.length : Int)
                          ·
                           rw [if_pos c46] at H
                           have c46b0 : decide (x8_1 < (x7_3.length : Int)) = true := decide_eq_true c46
                           clear c46
                           by_cases c47 : 0 ≤ x53_2
                           ·
                            rw [if_pos c47] at H
                            have c47b0 : decide (0 ≤ x53_2) = true := decide_eq_true c47
                            clear c47
                            by_cases c48 : x53_2 < ((rd_L7 x7_3 x8_1).length : Int)
                            ·
                             rw [if_pos c48] at H
                             have c48b0 : decide (x53_2 < ((rd_L7 x7_3 x8_1).length : Int)) = true := decide_eq_true c48
                             clear c48
                             by_cases c49 : ((rd_T71 (rd_L7 x7_3 x8_1) x53_2).f0) = 0
                             ·
                              rw [if_pos c49] at H
                              have c49b0 : (((rd_T71 (rd_L7 x7_3 x8_1) x53_2).f0) == 0) = true := beq_iff_eq.mpr c49
                              have c49b1 : (((rd_T71 (rd_L7 x7_3 x8_1) x53_2).f0) != 0) = false := bne_eq_false_iff_eq.mpr c49
                              clear c49
                              obtain ⟨y377, hy377⟩ : ∃ y_ : List (S71), y_ = ((rd_L7 x7_3 x8_1).set (x53_2 : Int).toNat (⟨(rd_T71 (rd_L7 x7_3 x8_1) x53_2).f0, wrap64 (((rd_T71 (rd_L7 x7_3 (ji37)) (ji40)).f1) + x11_3)⟩ : S71)) := ⟨_, rfl⟩
                              replace H : ((some (x7_3.set (x8_1 : Int).toNat y377 : List (List (S71)))).bind fun y379 => (if x53_2 < ((rd_L7 y379 x8_1).length : Int) then (impl_fillings.l2 k3 l0 a1 a2 (y379.set (x8_1 : Int).toNat ((rd_L7 y379 x8_1).set (x53_2 : Int).toNat (⟨wrap64 (((rd_T71 (rd_L7 y379 x8_1) x53_2).f0) + ((rd_T71 (rd_L7 x7_3 (ji37)) (ji40)).f0)), (rd_T71 (rd_L7 y379 x8_1) x53_2).f1⟩ : S71))) x8_1 (wrap64 ((wrap64 ((rd_T66 l0 x8_1).f0)) + a2)) x53_2 (wrap64 (x11_3 + 1)) ((rd_L7 y362 x8_1).length : Int) x53_2) else (none))) = some r := by first | (rw [hy377]; with_reducible exact H) | (have H2_ := (Option.bind_some _ _).symm.trans H; rw [hy377]; with_reducible exact H2_) | (have H2_ := (Option.bind_some _ _).symm.trans H; with_reducible exact H2_) | with_reducible exact H | (rw [hy377]; exact H) | exact H
                              have Ny377 := Aside0.mk hy377
                              clear hy377
                              obtain ⟨y379, hy379⟩ : ∃ y_ : List (List (S71)), y_ = (x7_3.set (x8_1 : Int).toNat y377) := ⟨_, rfl⟩
                              replace H : (if x53_2 < ((rd_L7 y379 x8_1).length : Int) then (impl_fillings.l2 k3 l0 a1 a2 (y379.set (x8_1 : Int).toNat ((rd_L7 y379 x8_1).set (x53_2 : Int).toNat (⟨wrap64 (((rd_T71 (rd_L7 y379 x8_1) x53_2).f0) + ((rd_T71 (rd_L7 x7_3 (ji37)) (ji40)).f0)), (rd_T71 (rd_L7 y379 x8_1) x53_2).f1⟩ : S71))) x8_1 (wrap64 ((wrap64 ((rd_T66 l0 x8_1).f0)) + a2)) x53_2 (wrap64 (x11_3 + 1)) ((rd_L7 y362 x8_1).length : Int) x53_2) else (none)) = some r := by first | (rw [hy379]; with_reducible exact H) | (have H2_ := (Option.bind_some _ _).symm.trans H; rw [hy379]; with_reducible exact H2_) | (have H2_ := (Option.bind_some _ _).symm.trans H; with_reducible exact H2_) | with_reducible exact H | (rw [hy379]; exact H) | exact H
                              have Ny379 := Aside0.mk hy379
                              clear hy379
                              by_cases c51 : x53_2 < ((rd_L7 y379 x8_1).length : Int)
                              ·
                               rw [if_pos c51] at H
                               have c51b0 : decide (x53_2 < ((rd_L7 y379 x8_1).length : Int)) = true := decide_eq_true c51
                               clear c51
                               obtain ⟨y382, hy382⟩ : ∃ y_ : List (S71), y_ = ((rd_L7 y379 x8_1).set (x53_2 : Int).toNat (⟨wrap64 (((rd_T71 (rd_L7 y379 x8_1) x53_2).f0) + ((rd_T71 (rd_L7 x7_3 (ji37)) (ji40)).f0)), (rd_T71 (rd_L7 y379 x8_1) x53_2).f1⟩ : S71)) := ⟨_, rfl⟩
                               replace H : (impl_fillings.l2 k3 l0 a1 a2 (y379.set (x8_1 : Int).toNat y382) x8_1 (wrap64 ((wrap64 ((rd_T66 l0 x8_1).f0)) + a2)) x53_2 (wrap64 (x11_3 + 1)) ((rd_L7 y362 x8_1).length : Int) x53_2) = some r := by first | (rw [hy382]; with_reducible exact H) | (have H2_ := (Option.bind_some _ _).symm.trans H; rw [hy382]; with_reducible exact H2_) | (have H2_ := (Option.bind_some _ _).symm.trans H; with_reducible exact H2_) | with_reducible exact H | (rw [hy382]; exact H) | exact H
                               have Ny382 := Aside0.mk hy382
                               clear hy382
                               obtain ⟨y384, hy384⟩ : ∃ y_ : List (List (S71)), y_ = (y379.set (x8_1 : Int).toNat y382) := ⟨_, rfl⟩
                               replace H : (impl_fillings.l2 k3 l0 a1 a2 y384 x8_1 (wrap64 ((wrap64 ((rd_T66 l0 x8_1).f0)) + a2)) x53_2 (wrap64 (x11_3 + 1)) ((rd_L7 y362 x8_1).length : Int) x53_2) = some r := by first | (rw [hy384]; with_reducible exact H) | (have H2_ := (Option.bind_some _ _).symm.trans H; rw [hy384]; with_reducible exact H2_) | (have H2_ := (Option.bind_some _ _).symm.trans H; with_reducible exact H2_) | with_reducible exact H | (rw [hy384]; exact H) | exact H
                               have Ny384 := Aside0.mk hy384
                               clear hy384
                               have H' := Aside0.mk H
                               clear H
                               have p369 : 0 ≤ (x8_1 : Int) := of_decide_eq_true (by first | (with_reducible assumption) | assumption)
                               have q369 : x8_1 < (l0.length : Int) := of_decide_eq_true (by first | (with_reducible assumption) | assumption)
                               obtain ⟨ad369, e369, hx369_0, hx369_1⟩ := at_T66 HR0.out x8_1 p369 q369
                               obtain rfl : ad367 = ad369 := (by injection e369)
                               replace hx369_0 := (HB.out.cell (World.block_lt_of_cell? w _ hx369_0)).trans hx369_0
                               replace hx369_1 := (HB.out.cell (World.block_lt_of_cell? w _ hx369_1)).trans hx369_1
                               replace p369 := eq_true p369
                               replace q369 := eq_true q369
                               have p370 : 0 ≤ ((ji37) : Int) := of_decide_eq_true (by first | (with_reducible assumption) | assumption)
                               have q370 : (ji37) < (x7_3.length : Int) := of_decide_eq_true (by first | (with_reducible assumption) | assumption)
                               obtain ⟨ad370, A370_0, c370_0, e370, hx370_0, hl370_0, hi370_0⟩ := at_L7 (Kd.S_reads' HO_7.out).2.2 (ji37) p370 q370
                               obtain rfl : (⟨go15, 0, none⟩ : Addr) = ad370 := (by injection e370)
                               obtain ⟨ce370, hce370, hMe370, hcc370⟩ := Kd.S_get HO_7.out [] (ji37) p370 (by first | exact q370 | exact of_decide_eq_true (by first | (with_reducible assumption) | assumption) | (have e_ := (Kd.S_reads' HO_7.out).1; omega))
                               obtain ⟨ve370_0, rfl, ge370_0⟩ := hMe370
                               have hv370_0 := hcc370 0 _ rfl
                               rw [Nat.add_zero, show ((Kd.slice 71 k71)).sz = 1 from rfl, Nat.mul_one] at hv370_0
                               replace hv370_0 := Option.some.inj (hv370_0.symm.trans hx370_0)
                               rw [hv370_0] at ge370_0
                               have HL370_0 := Aside0.mk (show Kd.R k71 71 _ _ _ _ (rd_L7 x7_3 (ji37)) from ge370_0)
                               clear hv370_0 ge370_0
                               have HX370_0 := Aside0.mk hx370_0
                               clear hcc370 hce370
                               (first | simp only [add_plain] at hx370_0 | simp only [add_at] at hx370_0 | simp only [Addr.add, Nat.zero_add] at hx370_0 | skip)
                               have HR370_0 := Aside0.mk hi370_0
                               have HC370_0 := Aside0.mk hl370_0
                               clear hi370_0 hl370_0
                               replace p370 := eq_true p370
                               replace q370 := eq_true q370
                               have p371 : 0 ≤ ((ji40) : Int) := of_decide_eq_true (by first | (with_reducible assumption) | assumption)
                               have q371 : (ji40) < ((rd_L7 x7_3 (ji37)).length : Int) := of_decide_eq_true (by first | (with_reducible assumption) | assumption)
                               obtain ⟨ad371, e371, hx371_0, hx371_1⟩ := at_T71 (by repeat (first | (with_reducible exact HR370_0.out) | (with_reducible refine Kd.C_alloc ?_ _) | (with_reducible refine Kd.C_drewN ?_ _) | (with_reducible refine Kd.C_drew ?_) | exact HR370_0.out)) (ji40) p371 q371
                               cases e371
                               replace p371 := eq_true p371
                               replace q371 := eq_true q371
                               try go_wp2_with (first | ((with_reducible refine gate_dst (N := 12) rfl ?_); refine box_event ?hg (N := 12) ?hd (cs := #[.int .i64 0, .int .i64 0]) (t := 71) ?hr ?_; (case hd => rfl); (case hg => rfl); (case hr => first | (go_simp; done) | (go_simp; rfl)); intro gb372 hg w53 hbox hb; have n0_ := Aside0.mk (Kd.S_below (Kd.S_elderB (by (with_reducible repeat (first | apply Kd.S_alloc | apply Kd.S_drewN | apply Kd.S_drew)); exact HO_7.out) gb372 (Nat.le_of_eq hg.symm)) hb); have n1_ := Aside0.mk (Kd.R_below (Kd.R_elderB (by (with_reducible repeat (first | apply Kd.R_alloc | apply Kd.R_drewN | apply Kd.R_drew)); exact HL370_0.out) gb372 (Nat.le_of_eq hg.symm)) hb); have n2_ := Aside0.mk (Kd.C_below (by repeat (first | (with_reducible exact HR370_0.out) | (with_reducible refine Kd.C_alloc ?_ _) | (with_reducible refine Kd.C_drewN ?_ _) | (with_reducible refine Kd.C_drew ?_) | exact HR370_0.out)) hb); have n3_ := Aside0.mk (pw_cell_below hb HX370_0.out); have n4_ := Aside0.mk (below_step (by repeat (first | (with_reducible first | exact HB.out | apply below_alloc | apply pw_below_drewN | apply below_drew1) | exact HB.out)) hb); have n5_ := Aside0.mk (hbox); have n6_ := Aside0.mk ((by rw [hg]; exact (below_size (by repeat (first | (with_reducible first | exact HB.out | apply below_alloc | apply pw_below_drewN | apply below_drew1) | exact HB.out))) : w.heap.size ≤ gb372)); have n7_ := Aside0.mk ((by rw [hg]; exact (below_size (by repeat (first | (with_reducible first | exact HB.out | apply below_alloc | apply pw_below_drewN | apply below_drew1) | exact HB.out))) : w.heap.size ≤ gb372)); clear HO_7; clear HL370_0; clear HR370_0; clear HX370_0; clear HB; have HO_7 := n0_; have HL370_0 := n1_; have HR370_0 := n2_; have HX370_0 := n3_; have HB := n4_; have BK372 := n5_; have GW372 := n6_; have GE372 := n7_; clear n0_ n1_ n2_ n3_ n4_ n5_ n6_ n7_; clear hb hbox hg; have hcz54_0 : w53.cell? ⟨gb372, 0, none⟩ = some (.int .i64 0) := (blk_cell BK372.out 0).trans rfl; have hcz54_1 : w53.cell? ⟨gb372, 1, none⟩ = some (.int .i64 0) := (blk_cell BK372.out 1).trans rfl; have hfz54_0 := blk_frozen BK372.out 0; have hfz54_1 := blk_frozen BK372.out 1) | ((with_reducible refine gate_store (t := 71) (p := 12) rfl ?_); refine store_event (t := 71) (p := 12) (v := ?vo_w55) (w1 := ((w53.setCell ⟨gb372, 0, none⟩ (.int .i64 ((rd_T71 (rd_L7 x7_3 (ji37)) (ji40)).f0))).setCell ⟨gb372, 1, none⟩ (.int .i64 ((rd_T71 (rd_L7 x7_3 (ji37)) (ji40)).f1)))) ?hg ?ho ?hn ?hr ?_; (case ho => rfl); (case hg => rfl); (case hn => rfl); (case hr => first | (go_simp; done) | (go_simp; rfl)); intro w55 hw; have n0_ : Aside0 (Kd.S (Kd.slice 71 k71) 72 w55 w.heap.size (fun k_ => k_ ≠ gb372) (.slice (some ⟨go15, 0, none⟩) x7_3.length co15) x7_3) := ⟨(by rw [hw]; exact (by (with_reducible repeat (first | apply Kd.S_alloc | apply Kd.S_drewN | apply Kd.S_drew)); exact Kd.S_mono (Kd.S_far (p := ⟨gb372, 1, none⟩) (Kd.S_far (p := ⟨gb372, 0, none⟩) (Kd.S_mono HO_7.out (fun k_ hk => (⟨hk, hk.2⟩ : _ ∧ k_ ≠ gb372))) (fun _ hk => hk.2) (.int .i64 ((rd_T71 (rd_L7 x7_3 (ji37)) (ji40)).f0))) (fun _ hk => hk.2) (.int .i64 ((rd_T71 (rd_L7 x7_3 (ji37)) (ji40)).f1))) (fun _ hk => hk.1.2)))⟩; have n1_ : Aside0 (Kd.R k71 71 w55 w.heap.size (fun k_ => some k_ ≠ (.slice (some ⟨go15, 0, none⟩) x7_3.length co15 : Value).ownBlock ∧ k_ ≠ gb372) (.slice (some ad371) (rd_L7 x7_3 (ji37)).length c370_0) (rd_L7 x7_3 (ji37))) := ⟨(by rw [hw]; exact (by (with_reducible repeat (first | apply Kd.R_alloc | apply Kd.R_drewN | apply Kd.R_drew)); exact Kd.R_mono (Kd.R_far (p := ⟨gb372, 1, none⟩) (Kd.R_far (p := ⟨gb372, 0, none⟩) (Kd.R_mono HL370_0.out (fun k_ hk => (⟨hk, hk.2⟩ : _ ∧ k_ ≠ gb372))) (fun _ hk => hk.2) (.int .i64 ((rd_T71 (rd_L7 x7_3 (ji37)) (ji40)).f0))) (fun _ hk => hk.2) (.int .i64 ((rd_T71 (rd_L7 x7_3 (ji37)) (ji40)).f1))) (fun _ hk => ⟨hk.1.1.2, hk.1.2⟩)))⟩; have n2_ : Aside0 (w55.heap[gb372]? = some (.cells #[.int .i64 ((rd_T71 (rd_L7 x7_3 (ji37)) (ji40)).f0), .int .i64 ((rd_T71 (rd_L7 x7_3 (ji37)) (ji40)).f1)] 71 (0, 0))) := ⟨(by rw [hw]; exact (by (with_reducible repeat (first | refine blk_drewN ?_ _ | refine blk_drew ?_ | refine blk_alloc ?_ _)); refine blk_put (cs := #[.int .i64 ((rd_T71 (rd_L7 x7_3 (ji37)) (ji40)).f0), .int .i64 0]) ?_ 1 _ rfl; (with_reducible repeat (first | refine blk_drewN ?_ _ | refine blk_drew ?_ | refine blk_alloc ?_ _)); refine blk_put (cs := #[.int .i64 0, .int .i64 0]) ?_ 0 _ rfl; (with_reducible repeat (first | refine blk_drewN ?_ _ | refine blk_drew ?_ | refine blk_alloc ?_ _)); exact BK372.out))⟩; have n3_ : Aside0 (Below w.heap.size w w55) := ⟨(by rw [hw]; exact (by repeat (first | (with_reducible first | exact HB.out | apply below_alloc | apply pw_below_drewN | apply below_drew1 | refine below_set ?_ GE372.out) | exact HB.out)))⟩; clear hw; clear HO_7; clear HL370_0; clear BK372; clear HB; have HO_7 := n0_; have HL370_0 := n1_; have BK372 := n2_; have HB := n3_; clear n0_ n1_ n2_ n3_; have hcz56_0 : w55.cell? ⟨gb372, 0, none⟩ = some (.int .i64 ((rd_T71 (rd_L7 x7_3 (ji37)) (ji40)).f0)) := (blk_cell BK372.out 0).trans rfl; have hcz56_1 : w55.cell? ⟨gb372, 1, none⟩ = some (.int .i64 ((rd_T71 (rd_L7 x7_3 (ji37)) (ji40)).f1)) := (blk_cell BK372.out 1).trans rfl; have hfz56_0 := blk_frozen BK372.out 0; have hfz56_1 := blk_frozen BK372.out 1; have p373 : 0 ≤ (x8_1 : Int) := of_decide_eq_true (by first | (with_reducible assumption) | assumption); have q373 : x8_1 < (x7_3.length : Int) := of_decide_eq_true (by first | (with_reducible assumption) | assumption); obtain ⟨ad373, A373_0, c373_0, e373, hx373_0, hl373_0, hi373_0⟩ := at_L7 (Kd.S_reads' HO_7.out).2.2 x8_1 p373 q373; obtain rfl : (⟨go15, 0, none⟩ : Addr) = ad373 := (by injection e373); obtain ⟨ce373, hce373, hMe373, hcc373⟩ := Kd.S_get HO_7.out [] x8_1 p373 (by first | exact q373 | exact of_decide_eq_true (by first | (with_reducible assumption) | assumption) | (have e_ := (Kd.S_reads' HO_7.out).1; omega)); obtain ⟨ve373_0, rfl, ge373_0⟩ := hMe373; have hv373_0 := hcc373 0 _ rfl; rw [Nat.add_zero, show ((Kd.slice 71 k71)).sz = 1 from rfl, Nat.mul_one] at hv373_0; replace hv373_0 := Option.some.inj (hv373_0.symm.trans hx373_0); rw [hv373_0] at ge373_0; have HL373_0 := Aside0.mk (show Kd.R k71 71 _ _ _ _ (rd_L7 x7_3 x8_1) from ge373_0); clear hv373_0 ge373_0; have HX373_0 := Aside0.mk hx373_0; clear hcc373 hce373; (first | simp only [add_plain] at hx373_0 | simp only [add_at] at hx373_0 | simp only [Addr.add, Nat.zero_add] at hx373_0 | skip); have HR373_0 := Aside0.mk hi373_0; have HC373_0 := Aside0.mk hl373_0; clear hi373_0 hl373_0; replace p373 := eq_true p373; replace q373 := eq_true q373; have p374 : 0 ≤ (x53_2 : Int) := of_decide_eq_true (by first | (with_reducible assumption) | assumption); have q374 : x53_2 < ((rd_L7 x7_3 x8_1).length : Int) := of_decide_eq_true (by first | (with_reducible assumption) | assumption); obtain ⟨ad374, e374, hx374_0, hx374_1⟩ := at_T71 (by repeat (first | (with_reducible exact HR373_0.out) | (with_reducible refine Kd.C_alloc ?_ _) | (with_reducible refine Kd.C_drewN ?_ _) | (with_reducible refine Kd.C_drew ?_) | exact HR373_0.out)) x53_2 p374 q374; cases e374; replace p374 := eq_true p374; replace q374 := eq_true q374) | ((with_reducible refine gate_dst (N := 13) rfl ?_); refine box_event ?hg (N := 13) ?hd (cs := #[.int .i64 0, .int .i64 0]) (t := 71) ?hr ?_; (case hd => rfl); (case hg => rfl); (case hr => first | (go_simp; done) | (go_simp; rfl)); intro gb375 hg w57 hbox hb; have n0_ := Aside0.mk (Kd.S_below (Kd.S_elderB (by (with_reducible repeat (first | apply Kd.S_alloc | apply Kd.S_drewN | apply Kd.S_drew)); exact HO_7.out) gb375 (Nat.le_of_eq hg.symm)) hb); have n1_ := Aside0.mk (Kd.R_below (Kd.R_elderB (by (with_reducible repeat (first | apply Kd.R_alloc | apply Kd.R_drewN | apply Kd.R_drew)); exact HL370_0.out) gb375 (Nat.le_of_eq hg.symm)) hb); have n2_ := Aside0.mk (Kd.R_below (Kd.R_elderB (by (with_reducible repeat (first | apply Kd.R_alloc | apply Kd.R_drewN | apply Kd.R_drew)); exact HL373_0.out) gb375 (Nat.le_of_eq hg.symm)) hb); have n3_ := Aside0.mk (blk_below (g := gb372) (o := .cells #[.int .i64 ((rd_T71 (rd_L7 x7_3 (ji37)) (ji40)).f0), .int .i64 ((rd_T71 (rd_L7 x7_3 (ji37)) (ji40)).f1)] 71 (0, 0)) (by (with_reducible repeat (first | refine blk_drewN ?_ _ | refine blk_drew ?_ | refine blk_alloc ?_ _)); exact BK372.out) hb); have n4_ := Aside0.mk (Kd.C_below (by repeat (first | (with_reducible exact HR373_0.out) | (with_reducible refine Kd.C_alloc ?_ _) | (with_reducible refine Kd.C_drewN ?_ _) | (with_reducible refine Kd.C_drew ?_) | exact HR373_0.out)) hb); have n5_ := Aside0.mk (pw_cell_below hb HX373_0.out); have n6_ := Aside0.mk (below_step (by repeat (first | (with_reducible first | exact HB.out | apply below_alloc | apply pw_below_drewN | apply below_drew1 | refine below_set ?_ GE372.out) | exact HB.out)) hb); have n7_ := Aside0.mk (hbox); have n8_ := Aside0.mk ((by rw [hg]; exact (below_size (by repeat (first | (with_reducible first | exact HB.out | apply below_alloc | apply pw_below_drewN | apply below_drew1 | refine below_set ?_ GE372.out) | exact HB.out))) : w.heap.size ≤ gb375)); have n9_ := Aside0.mk ((by rw [hg]; exact (below_size (by repeat (first | (with_reducible first | exact HB.out | apply below_alloc | apply pw_below_drewN | apply below_drew1 | refine below_set ?_ GE372.out) | exact HB.out))) : w.heap.size ≤ gb375)); have n10_ := Aside0.mk ((by rw [hg]; exact Nat.ne_of_lt (blk_lt (g := gb372) (o := .cells #[.int .i64 ((rd_T71 (rd_L7 x7_3 (ji37)) (ji40)).f0), .int .i64 ((rd_T71 (rd_L7 x7_3 (ji37)) (ji40)).f1)] 71 (0, 0)) (by (with_reducible repeat (first | refine blk_drewN ?_ _ | refine blk_drew ?_ | refine blk_alloc ?_ _)); exact BK372.out)) : gb372 ≠ gb375)); have n11_ := Aside0.mk ((by rw [hg]; exact Nat.ne_of_gt (blk_lt (g := gb372) (o := .cells #[.int .i64 ((rd_T71 (rd_L7 x7_3 (ji37)) (ji40)).f0), .int .i64 ((rd_T71 (rd_L7 x7_3 (ji37)) (ji40)).f1)] 71 (0, 0)) (by (with_reducible repeat (first | refine blk_drewN ?_ _ | refine blk_drew ?_ | refine blk_alloc ?_ _)); exact BK372.out)) : gb375 ≠ gb372)); clear HO_7; clear HL370_0; clear HL373_0; clear BK372; clear HR373_0; clear HX373_0; clear HB; have HO_7 := n0_; have HL370_0 := n1_; have HL373_0 := n2_; have BK372 := n3_; have HR373_0 := n4_; have HX373_0 := n5_; have HB := n6_; have BK375 := n7_; have GW375 := n8_; have GE375 := n9_; have NB372_375 := n10_; have NB375_372 := n11_; clear n0_ n1_ n2_ n3_ n4_ n5_ n6_ n7_ n8_ n9_ n10_ n11_; clear hb hbox hg; have hnb58 := NB375_372.out; have hnc58 := NB372_375.out; have hcz59_0 : w57.cell? ⟨gb375, 0, none⟩ = some (.int .i64 0) := (blk_cell BK375.out 0).trans rfl; have hcz59_1 : w57.cell? ⟨gb375, 1, none⟩ = some (.int .i64 0) := (blk_cell BK375.out 1).trans rfl; have hfz59_0 := blk_frozen BK375.out 0; have hfz59_1 := blk_frozen BK375.out 1))
                               have n0_ : Aside0 (Kd.S (Kd.slice 71 k71) 72 ((w57.setCell ⟨gb375, 0, none⟩ (.int .i64 ((rd_T71 (rd_L7 x7_3 x8_1) x53_2).f0))).setCell ⟨gb375, 1, none⟩ (.int .i64 ((rd_T71 (rd_L7 x7_3 x8_1) x53_2).f1))) w.heap.size (fun k_ => k_ ≠ gb372 ∧ k_ ≠ gb375) (.slice (some ⟨go15, 0, none⟩) x7_3.length co15) x7_3) := ⟨by (with_reducible repeat (first | apply Kd.S_alloc | apply Kd.S_drewN | apply Kd.S_drew)); exact Kd.S_mono (Kd.S_far (p := ⟨gb375, 1, none⟩) (Kd.S_far (p := ⟨gb375, 0, none⟩) (Kd.S_mono HO_7.out (fun k_ hk => (⟨hk, hk.2⟩ : _ ∧ k_ ≠ gb375))) (fun _ hk => hk.2) (.int .i64 ((rd_T71 (rd_L7 x7_3 x8_1) x53_2).f0))) (fun _ hk => hk.2) (.int .i64 ((rd_T71 (rd_L7 x7_3 x8_1) x53_2).f1))) (fun _ hk => ⟨hk.1.1, hk.1.2⟩)⟩
                               have n1_ : Aside0 (Kd.R k71 71 ((w57.setCell ⟨gb375, 0, none⟩ (.int .i64 ((rd_T71 (rd_L7 x7_3 x8_1) x53_2).f0))).setCell ⟨gb375, 1, none⟩ (.int .i64 ((rd_T71 (rd_L7 x7_3 x8_1) x53_2).f1))) w.heap.size (fun k_ => some k_ ≠ (.slice (some ⟨go15, 0, none⟩) x7_3.length co15 : Value).ownBlock ∧ k_ ≠ gb372 ∧ k_ ≠ gb375) (.slice (some ad371) (rd_L7 x7_3 (ji37)).length c370_0) (rd_L7 x7_3 (ji37))) := ⟨by (with_reducible repeat (first | apply Kd.R_alloc | apply Kd.R_drewN | apply Kd.R_drew)); exact Kd.R_mono (Kd.R_far (p := ⟨gb375, 1, none⟩) (Kd.R_far (p := ⟨gb375, 0, none⟩) (Kd.R_mono HL370_0.out (fun k_ hk => (⟨hk, hk.2⟩ : _ ∧ k_ ≠ gb375))) (fun _ hk => hk.2) (.int .i64 ((rd_T71 (rd_L7 x7_3 x8_1) x53_2).f0))) (fun _ hk => hk.2) (.int .i64 ((rd_T71 (rd_L7 x7_3 x8_1) x53_2).f1))) (fun _ hk => ⟨hk.1.1.1, ⟨hk.1.1.2, hk.1.2⟩⟩)⟩
                               have n2_ : Aside0 (Kd.R k71 71 ((w57.setCell ⟨gb375, 0, none⟩ (.int .i64 ((rd_T71 (rd_L7 x7_3 x8_1) x53_2).f0))).setCell ⟨gb375, 1, none⟩ (.int .i64 ((rd_T71 (rd_L7 x7_3 x8_1) x53_2).f1))) w.heap.size (fun k_ => some k_ ≠ (.slice (some ⟨go15, 0, none⟩) x7_3.length co15 : Value).ownBlock ∧ k_ ≠ gb372 ∧ k_ ≠ gb375) (.slice (some ad374) (rd_L7 x7_3 x8_1).length c373_0) (rd_L7 x7_3 x8_1)) := ⟨by (with_reducible repeat (first | apply Kd.R_alloc | apply Kd.R_drewN | apply Kd.R_drew)); exact Kd.R_mono (Kd.R_far (p := ⟨gb375, 1, none⟩) (Kd.R_far (p := ⟨gb375, 0, none⟩) (Kd.R_mono HL373_0.out (fun k_ hk => (⟨hk, hk.2⟩ : _ ∧ k_ ≠ gb375))) (fun _ hk => hk.2) (.int .i64 ((rd_T71 (rd_L7 x7_3 x8_1) x53_2).f0))) (fun _ hk => hk.2) (.int .i64 ((rd_T71 (rd_L7 x7_3 x8_1) x53_2).f1))) (fun _ hk => ⟨hk.1.1.2, ⟨hk.1.1.1, hk.1.2⟩⟩)⟩
                               have n3_ : Aside0 (((w57.setCell ⟨gb375, 0, none⟩ (.int .i64 ((rd_T71 (rd_L7 x7_3 x8_1) x53_2).f0))).setCell ⟨gb375, 1, none⟩ (.int .i64 ((rd_T71 (rd_L7 x7_3 x8_1) x53_2).f1))).heap[gb372]? = some (.cells #[.int .i64 ((rd_T71 (rd_L7 x7_3 (ji37)) (ji40)).f0), .int .i64 ((rd_T71 (rd_L7 x7_3 (ji37)) (ji40)).f1)] 71 (0, 0))) := ⟨by (with_reducible repeat (first | refine blk_drewN ?_ _ | refine blk_drew ?_ | refine blk_alloc ?_ _)); refine blk_far ?_ NB372_375.out _; (with_reducible repeat (first | refine blk_drewN ?_ _ | refine blk_drew ?_ | refine blk_alloc ?_ _)); refine blk_far ?_ NB372_375.out _; (with_reducible repeat (first | refine blk_drewN ?_ _ | refine blk_drew ?_ | refine blk_alloc ?_ _)); exact BK372.out⟩
                               have n4_ : Aside0 (((w57.setCell ⟨gb375, 0, none⟩ (.int .i64 ((rd_T71 (rd_L7 x7_3 x8_1) x53_2).f0))).setCell ⟨gb375, 1, none⟩ (.int .i64 ((rd_T71 (rd_L7 x7_3 x8_1) x53_2).f1))).heap[gb375]? = some (.cells #[.int .i64 ((rd_T71 (rd_L7 x7_3 x8_1) x53_2).f0), .int .i64 ((rd_T71 (rd_L7 x7_3 x8_1) x53_2).f1)] 71 (0, 0))) := ⟨by (with_reducible repeat (first | refine blk_drewN ?_ _ | refine blk_drew ?_ | refine blk_alloc ?_ _)); refine blk_put (cs := #[.int .i64 ((rd_T71 (rd_L7 x7_3 x8_1) x53_2).f0), .int .i64 0]) ?_ 1 _ rfl; (with_reducible repeat (first | refine blk_drewN ?_ _ | refine blk_drew ?_ | refine blk_alloc ?_ _)); refine blk_put (cs := #[.int .i64 0, .int .i64 0]) ?_ 0 _ rfl; (with_reducible repeat (first | refine blk_drewN ?_ _ | refine blk_drew ?_ | refine blk_alloc ?_ _)); exact BK375.out⟩
                               have n5_ : Aside0 (Below w.heap.size w ((w57.setCell ⟨gb375, 0, none⟩ (.int .i64 ((rd_T71 (rd_L7 x7_3 x8_1) x53_2).f0))).setCell ⟨gb375, 1, none⟩ (.int .i64 ((rd_T71 (rd_L7 x7_3 x8_1) x53_2).f1)))) := ⟨by repeat (first | (with_reducible first | exact HB.out | apply below_alloc | apply pw_below_drewN | apply below_drew1 | refine below_set ?_ GE372.out | refine below_set ?_ GE375.out) | exact HB.out)⟩
                               (try clear HO_7)
                               (try clear HL370_0)
                               (try clear HL373_0)
                               (try clear BK372)
                               (try clear BK375)
                               (try clear HB)
                               generalize ((w57.setCell ⟨gb375, 0, none⟩ (.int .i64 ((rd_T71 (rd_L7 x7_3 x8_1) x53_2).f0))).setCell ⟨gb375, 1, none⟩ (.int .i64 ((rd_T71 (rd_L7 x7_3 x8_1) x53_2).f1))) = w60 at n0_ n1_ n2_ n3_ n4_ n5_ ⊢
                               have HO_7 := n0_
                               have HL370_0 := n1_
                               have HL373_0 := n2_
                               have BK372 := n3_
                               have BK375 := n4_
                               have HB := n5_
                               clear n0_ n1_ n2_ n3_ n4_ n5_
                               have n0_ := Aside0.mk (Kd.S_drew HO_7.out)
                               have n1_ := Aside0.mk (Kd.R_drew HL370_0.out)
                               have n2_ := Aside0.mk (Kd.R_drew HL373_0.out)
                               have n3_ := Aside0.mk (blk_drew BK372.out)
                               have n4_ := Aside0.mk (blk_drew BK375.out)
                               have n5_ := Aside0.mk (below_drew1 HB.out)
                               clear HO_7
                               clear HL370_0
                               clear HL373_0
                               clear BK372
                               clear BK375
                               clear HB
                               have HO_7 := n0_
                               have HL370_0 := n1_
                               have HL373_0 := n2_
                               have BK372 := n3_
                               have BK375 := n4_
                               have HB := n5_
                               clear n0_ n1_ n2_ n3_ n4_ n5_
                               have p376 : 0 ≤ (x8_1 : Int) := of_decide_eq_true (by first | (with_reducible assumption) | assumption)
                               have q376 : x8_1 < (x7_3.length : Int) := of_decide_eq_true (by first | (with_reducible assumption) | assumption)
                               obtain ⟨ad376, A376_0, c376_0, e376, hx376_0, hl376_0, hi376_0⟩ := at_L7 (Kd.S_reads' HO_7.out).2.2 x8_1 p376 q376
                               obtain rfl : (⟨go15, 0, none⟩ : Addr) = ad376 := (by injection e376)
                               obtain ⟨ce376, hce376, hMe376, hcc376⟩ := Kd.S_get HO_7.out [] x8_1 p376 (by first | exact q376 | exact of_decide_eq_true (by first | (with_reducible assumption) | assumption) | (have e_ := (Kd.S_reads' HO_7.out).1; omega))
                               obtain ⟨ve376_0, rfl, ge376_0⟩ := hMe376
                               have hv376_0 := hcc376 0 _ rfl
                               rw [Nat.add_zero, show ((Kd.slice 71 k71)).sz = 1 from rfl, Nat.mul_one] at hv376_0
                               replace hv376_0 := Option.some.inj (hv376_0.symm.trans hx376_0)
                               rw [hv376_0] at ge376_0
                               have HL376_0 := Aside0.mk (show Kd.R k71 71 _ _ _ _ (rd_L7 x7_3 x8_1) from ge376_0)
                               clear hv376_0 ge376_0
                               have HX376_0 := Aside0.mk hx376_0
                               clear hcc376 hce376
                               (first | simp only [add_plain] at hx376_0 | simp only [add_at] at hx376_0 | simp only [Addr.add, Nat.zero_add] at hx376_0 | skip)
                               have HR376_0 := Aside0.mk hi376_0
                               have HC376_0 := Aside0.mk hl376_0
                               clear hi376_0 hl376_0
                               replace p376 := eq_true p376
                               replace q376 := eq_true q376
                               have p50 : 0 ≤ (x53_2 : Int) := of_decide_eq_true (by first | (with_reducible assumption) | assumption)
                               have q50 : (x53_2 : Int) < (((rd_L7 x7_3 x8_1).length : Int) : Int) := of_decide_eq_true (by first | (with_reducible assumption) | assumption)
                               obtain ⟨go50, co50, eo50, gb50, gl50, cl50, HG50⟩ := Kd.R_form HL376_0.out (by omega)
                               (first | cases eo50 | (injection eo50 with ea_ en_ ec_; (first | subst ea_ | (injection ea_ with ea_; subst ea_)); subst ec_; clear en_))
                               have GB50 := Aside0.mk gb50
                               have GG50 := Aside0.mk HG50
                               clear gb50 gl50 HG50
                               obtain ⟨ce50, hcl50, hM50, hcc50, hfr50⟩ := Kd.R_elem HL376_0.out z71 (x53_2 : Int) p50 q50
                               obtain rfl := k71_openM hM50
                               have hx50_0 : World.cell? _ ⟨go50, (x53_2 : Int).toNat * 2, none⟩ = some (.int .i64 ((rd_T71 (rd_L7 x7_3 x8_1) x53_2).f0)) := hcc50 0 _ rfl
                               have hx50_1 : World.cell? _ ⟨go50, (x53_2 : Int).toNat * 2 + 1, none⟩ = some (.int .i64 ((rd_T71 (rd_L7 x7_3 x8_1) x53_2).f1)) := hcc50 1 _ rfl
                               have hf50_0 : World.frozen? _ ⟨go50, (x53_2 : Int).toNat * 2, none⟩ = false := hfr50 0
                               have hf50_1 : World.frozen? _ ⟨go50, (x53_2 : Int).toNat * 2 + 1, none⟩ = false := hfr50 1
                               clear hcl50 hcc50 hfr50; (try clear hM50)
                               replace p50 := eq_true p50
                               replace q50 := eq_true q50
                               have hq62 : (x8_1 : Int) < (x7_3.length : Int) := (by have h_ : (x8_1 : Int) < ((x7_3.length : Int) : Int) := of_decide_eq_true (by first | (with_reducible assumption) | assumption); first | exact h_ | (have e_ := (Kd.S_reads' HO_7.out).1; omega) | simpa only [List.length_set, List.length_set] using h_)
                               obtain ⟨oki62, ce62, hcl62, hM62, hcc62, hok62, hbk62⟩ := Kd.S_borrow HO_7.out [] (x8_1 : Int) (of_decide_eq_true (by first | (with_reducible assumption) | assumption)) (by first | exact hq62 | (have e_ := (Kd.S_reads' HO_7.out).1; omega))
                               obtain ⟨ve62_0, rfl, ge62_0⟩ := hM62
                               have hv62 := hcc62 0 _ rfl
                               rw [Nat.add_zero, show ((Kd.slice 71 k71)).sz = 1 from rfl, Nat.mul_one] at hv62
                               replace hv62 := Option.some.inj (hv62.symm.trans HX376_0.out)
                               subst hv62
                               clear hcc62 hcl62
                               replace ge62_0 := (show Kd.R k71 71 _ _ _ _ (rd_L7 x7_3 x8_1) from ge62_0)
                               obtain ⟨cf62, hcl62, hN62, hcc62, hfr62⟩ := Kd.R_elem ge62_0 z71 (x53_2 : Int) (of_decide_eq_true (by first | (with_reducible assumption) | assumption)) (by have h_ : (x53_2 : Int) < (((rd_L7 x7_3 x8_1).length : Int) : Int) := of_decide_eq_true (by first | (with_reducible assumption) | assumption); first | exact h_ | (have e_ := (Kd.R_reads' HR376_0.out).1; omega) | simpa using h_)
                               obtain rfl := k71_openM hN62
                               have HP62 := Kd.R_seg ge62_0 (x53_2 : Int) (of_decide_eq_true (by first | (with_reducible assumption) | assumption)) (by have h_ : (x53_2 : Int) < (((rd_L7 x7_3 x8_1).length : Int) : Int) := of_decide_eq_true (by first | (with_reducible assumption) | assumption); first | exact h_ | (have e_ := (Kd.R_reads' HR376_0.out).1; omega) | simpa using h_) (seg := [.int .i64 (wrap64 (((rd_T71 (rd_L7 x7_3 (ji37)) (ji40)).f1) + x11_3))]) (j := 1) hcl62 hcc62 (show 2 ≤ 2 from by decide) (x' := (⟨(rd_T71 (rd_L7 x7_3 x8_1) x53_2).f0, wrap64 (((rd_T71 (rd_L7 x7_3 (ji37)) (ji40)).f1) + x11_3)⟩ : S71)) (k71_mkM _ _ _ (⟨(rd_T71 (rd_L7 x7_3 x8_1) x53_2).f0, wrap64 (((rd_T71 (rd_L7 x7_3 (ji37)) (ji40)).f1) + x11_3)⟩ : S71)) (fun _ hk => hk)
                               clear hcl62 hcc62 hfr62; (try clear hN62)
                               rw [← Ny377.out] at HP62
                               have HS62 := hbk62 HP62.2 (fun k_ e_ => by injection e_ with e_; subst e_; exact ge62_0.1 _ rfl) (x' := y377) (Kd.M_row HP62.1)
                               rw [← Ny379.out] at HS62
                               have HQ62 := Aside0.mk HS62
                               clear HP62 HS62 hbk62 hok62
                               refine start_ (n := 12) (S := fun w' => w'.cell? ⟨gb372, 0, none⟩ = some (.int .i64 ((rd_T71 (rd_L7 x7_3 (ji37)) (ji40)).f0)) ∧ w'.cell? ⟨gb372, 1, none⟩ = some (.int .i64 ((rd_T71 (rd_L7 x7_3 (ji37)) (ji40)).f1)) ∧ w'.cell? ⟨go15, (x8_1).toNat, none⟩ = some (.slice (some ⟨go50, 0, none⟩) (rd_L7 x7_3 x8_1).length c376_0)) (ds := [11]) #[false, false, false, false, false, false, false, false, false, false, false, false] (by kernel_rfl) rfl rfl ⟨(blk_cell BK372.out 0).trans rfl, (blk_cell BK372.out 1).trans rfl, hx376_0⟩ (fun hHeld => ?_); refine with_tabW impl_fillings.tab19 impl_fillings.bits19 (fun HT_ HW_ => ?_)
                               generalize w60.drew = w61 at HO_7 HL370_0 HL373_0 BK372 BK375 HB GG50 HL376_0 HQ62 HR376_0 HX376_0 hf50_0 hf50_1 hx376_0 hx50_0 hx50_1 hHeld ⊢
                               refine pure_ (i := 0) (N := some 107) (v := ?_) (a' := ?_) #[true, false, false, false, false, false, false, false, false, false, false, false] rfl rfl (any_of HT_.out (by kernel_rfl)) (fun _ _ _ h => h) (Or.inl ⟨by rfl, ?_⟩) ?_ ?_
                               rotate_left
                               ·
                                intro w'
                                go_simp
                                with_reducible rfl
                               rotate_left
                               ·
                                simp only [Act.put, List.setIfInBounds_toArray, List.set_cons_zero, List.set_cons_succ, i64_w, i32_w]
                                rfl
                               refine pure_ (i := 1) (N := some 108) (v := ?_) (a' := ?_) #[true, true, false, false, false, false, false, false, false, false, false, false] rfl rfl (any_of HT_.out (by kernel_rfl)) (fun _ _ _ h => h) (Or.inl ⟨by rfl, ?_⟩) ?_ ?_
                               rotate_left
                               ·
                                intro w'
                                go_simp
                                with_reducible rfl
                               rotate_left
                               ·
                                simp only [Act.put, List.setIfInBounds_toArray, List.set_cons_zero, List.set_cons_succ, i64_w, i32_w]
                                rfl
                               refine pure_ (i := 2) (N := some 109) (v := ?_) (a' := ?_) #[true, true, true, false, false, false, false, false, false, false, false, false] rfl rfl (any_of HT_.out (by kernel_rfl)) (fun _ _ _ h => h) (Or.inl ⟨by rfl, ?_⟩) ?_ ?_
                               rotate_left
                               ·
                                intro w'
                                go_simp
                                with_reducible rfl
                               rotate_left
                               ·
                                simp only [Act.put, List.setIfInBounds_toArray, List.set_cons_zero, List.set_cons_succ, i64_w, i32_w]
                                rfl
                               refine pure_ (i := 4) (N := some 111) (v := ?_) (a' := ?_) #[true, true, true, false, true, false, false, false, false, false, false, false] rfl rfl (any_of HT_.out (by kernel_rfl)) (fun _ _ _ h => h) (Or.inl ⟨by rfl, ?_⟩) ?_ ?_
                               rotate_left
                               ·
                                intro w'
                                go_simp
                                with_reducible rfl
                               rotate_left
                               ·
                                simp only [Act.put, List.setIfInBounds_toArray, List.set_cons_zero, List.set_cons_succ, i64_w, i32_w]
                                rfl
                               refine pure_ (i := 5) (N := some 112) (v := ?_) (a' := ?_) #[true, true, true, false, true, true, false, false, false, false, false, false] rfl rfl (any_of HT_.out (by kernel_rfl)) (fun _ _ _ h => h) (Or.inl ⟨by rfl, ?_⟩) ?_ ?_
                               rotate_left
                               ·
                                intro w'
                                go_simp
                                with_reducible rfl
                               rotate_left
                               ·
                                simp only [Act.put, List.setIfInBounds_toArray, List.set_cons_zero, List.set_cons_succ, i64_w, i32_w]
                                rfl
                               refine pure_ (i := 7) (N := some 114) (v := ?_) (a' := ?_) #[true, true, true, false, true, true, false, true, false, false, false, false] rfl rfl (any_of HT_.out (by kernel_rfl)) (fun _ _ _ h => h) (Or.inl ⟨by rfl, ?_⟩) ?_ ?_
                               rotate_left
                               ·
                                intro w'
                                go_simp
                                with_reducible rfl
                               rotate_left
                               ·
                                simp only [Act.put, List.setIfInBounds_toArray, List.set_cons_zero, List.set_cons_succ, i64_w, i32_w]
                                rfl
                               refine take_ (i := 3) (N := some 110) (v := ?_) (a' := ?_) #[true, true, true, true, true, true, false, true, false, false, false, false] rfl rfl (take_ofW HT_.out HW_.out (by kernel_rfl)) (fun _ _ _ h => h) (Or.inl ⟨by rfl, ?_⟩) hHeld ?_ ?_
                               rotate_left
                               ·
                                rintro w' ⟨s0, s1, s2⟩
                                go_simp
                                with_reducible rfl
                               rotate_left
                               ·
                                simp only [Act.put, List.setIfInBounds_toArray, List.set_cons_zero, List.set_cons_succ, i64_w, i32_w]
                                rfl
                               refine take_ (i := 6) (N := some 113) (v := ?_) (a' := ?_) #[true, true, true, true, true, true, true, true, false, false, false, false] rfl rfl (take_ofW HT_.out HW_.out (by kernel_rfl)) (fun _ _ _ h => h) (Or.inl ⟨by rfl, ?_⟩) hHeld ?_ ?_
                               rotate_left
                               ·
                                rintro w' ⟨s0, s1, s2⟩
                                go_simp
                                with_reducible rfl
                               rotate_left
                               ·
                                simp only [Act.put, List.setIfInBounds_toArray, List.set_cons_zero, List.set_cons_succ, i64_w, i32_w]
                                rfl
                               refine pure_ (i := 8) (N := some 115) (v := ?_) (a' := ?_) #[true, true, true, true, true, true, true, true, true, false, false, false] rfl rfl (any_of HT_.out (by kernel_rfl)) (fun _ _ _ h => h) (Or.inl ⟨by rfl, ?_⟩) ?_ ?_
                               rotate_left
                               ·
                                intro w'
                                go_simp
                                with_reducible rfl
                               rotate_left
                               ·
                                simp only [Act.put, List.setIfInBounds_toArray, List.set_cons_zero, List.set_cons_succ, i64_w, i32_w]
                                rfl
                               refine pure_ (i := 9) (N := some 116) (v := ?_) (a' := ?_) #[true, true, true, true, true, true, true, true, true, true, false, false] rfl rfl (any_of HT_.out (by kernel_rfl)) (fun _ _ _ h => h) (Or.inl ⟨by rfl, ?_⟩) ?_ ?_
                               rotate_left
                               ·
                                intro w'
                                go_simp
                                with_reducible rfl
                               rotate_left
                               ·
                                simp only [Act.put, List.setIfInBounds_toArray, List.set_cons_zero, List.set_cons_succ, i64_w, i32_w]
                                rfl
                               refine pure_ (i := 10) (N := some 117) (v := ?_) (a' := ?_) #[true, true, true, true, true, true, true, true, true, true, true, false] rfl rfl (any_of HT_.out (by kernel_rfl)) (fun _ _ _ h => h) (Or.inl ⟨by rfl, ?_⟩) ?_ ?_
                               rotate_left
                               ·
                                intro w'
                                go_simp
                                with_reducible rfl
                               rotate_left
                               ·
                                simp only [Act.put, List.setIfInBounds_toArray, List.set_cons_zero, List.set_cons_succ, i64_w, i32_w]
                                rfl
                               refine last_ (i := 11) (N := none) #[true, true, true, true, true, true, true, true, true, true, true, true] rfl rfl (one_of HT_.out (by kernel_rfl)) (by decide) (fun K hK => ?_)
                               refine skip_ (w1 := ?_) (by rfl) rfl ?_ ?_
                               rotate_left
                               ·
                                go_simp
                                rfl
                               refine hK.out _ _ ?_
                               clear hK K
                               refine done_ (done_of HT_.out (by kernel_rfl)) ?_
                               try go_wp2
                               have n0_ : Aside0 (Kd.S (Kd.slice 71 k71) 72 (w61.setCell ⟨go50, (x53_2 : Int).toNat * 2 + 1, none⟩ (.int .i64 (wrap64 (((rd_T71 (rd_L7 x7_3 (ji37)) (ji40)).f1) + x11_3)))) w.heap.size (fun k_ => k_ ≠ gb372 ∧ k_ ≠ gb375) (.slice (some ⟨go15, 0, none⟩) x7_3.length co15) y379) := ⟨by (with_reducible repeat (first | apply Kd.S_alloc | apply Kd.S_drewN | apply Kd.S_drew)); exact HQ62.out⟩
                               have n1_ : Aside0 ((w61.setCell ⟨go50, (x53_2 : Int).toNat * 2 + 1, none⟩ (.int .i64 (wrap64 (((rd_T71 (rd_L7 x7_3 (ji37)) (ji40)).f1) + x11_3)))).heap[gb372]? = some (.cells #[.int .i64 ((rd_T71 (rd_L7 x7_3 (ji37)) (ji40)).f0), .int .i64 ((rd_T71 (rd_L7 x7_3 (ji37)) (ji40)).f1)] 71 (0, 0))) := ⟨by (with_reducible repeat (first | refine blk_drewN ?_ _ | refine blk_drew ?_ | refine blk_alloc ?_ _)); refine blk_far ?_ (by have h_ := Kd.R_away HL376_0.out (fun _ hk => hk.1.1); intro e_; exact h_ (by rw [e_]; rfl)) _; (with_reducible repeat (first | refine blk_drewN ?_ _ | refine blk_drew ?_ | refine blk_alloc ?_ _)); exact BK372.out⟩
                               have n2_ : Aside0 ((w61.setCell ⟨go50, (x53_2 : Int).toNat * 2 + 1, none⟩ (.int .i64 (wrap64 (((rd_T71 (rd_L7 x7_3 (ji37)) (ji40)).f1) + x11_3)))).heap[gb375]? = some (.cells #[.int .i64 ((rd_T71 (rd_L7 x7_3 x8_1) x53_2).f0), .int .i64 ((rd_T71 (rd_L7 x7_3 x8_1) x53_2).f1)] 71 (0, 0))) := ⟨by (with_reducible repeat (first | refine blk_drewN ?_ _ | refine blk_drew ?_ | refine blk_alloc ?_ _)); refine blk_far ?_ (by have h_ := Kd.R_away HL376_0.out (fun _ hk => hk.1.2); intro e_; exact h_ (by rw [e_]; rfl)) _; (with_reducible repeat (first | refine blk_drewN ?_ _ | refine blk_drew ?_ | refine blk_alloc ?_ _)); exact BK375.out⟩
                               have n3_ : Aside0 (Below w.heap.size w (w61.setCell ⟨go50, (x53_2 : Int).toNat * 2 + 1, none⟩ (.int .i64 (wrap64 (((rd_T71 (rd_L7 x7_3 (ji37)) (ji40)).f1) + x11_3))))) := ⟨by repeat (first | (with_reducible first | exact HB.out | apply below_alloc | apply pw_below_drewN | apply below_drew1 | refine below_set ?_ GB50.out | refine below_set ?_ GE372.out | refine below_set ?_ GE375.out) | exact HB.out)⟩
                               (try clear HO_7)
                               (try clear BK372)
                               (try clear BK375)
                               (try clear HB)
                               generalize (w61.setCell ⟨go50, (x53_2 : Int).toNat * 2 + 1, none⟩ (.int .i64 (wrap64 (((rd_T71 (rd_L7 x7_3 (ji37)) (ji40)).f1) + x11_3)))) = w64 at n0_ n1_ n2_ n3_ ⊢
                               have HO_7 := n0_
                               have BK372 := n1_
                               have BK375 := n2_
                               have HB := n3_
                               clear n0_ n1_ n2_ n3_
                               have n0_ := Aside0.mk (Kd.S_drew HO_7.out)
                               have n1_ := Aside0.mk (blk_drew BK372.out)
                               have n2_ := Aside0.mk (blk_drew BK375.out)
                               have n3_ := Aside0.mk (below_drew1 HB.out)
                               clear HO_7
                               clear BK372
                               clear BK375
                               clear HB
                               have HO_7 := n0_
                               have BK372 := n1_
                               have BK375 := n2_
                               have HB := n3_
                               clear n0_ n1_ n2_ n3_
                               have p380 : 0 ≤ (x8_1 : Int) := of_decide_eq_true (by first | (with_reducible assumption) | assumption)
                               have q380 : x8_1 < (y379.length : Int) := (by have h_ : (x8_1 : Int) < ((x7_3.length : Int) : Int) := of_decide_eq_true (by first | (with_reducible assumption) | assumption); first | (have e_ := (Kd.S_reads' HO_7.out).1; omega) | simpa only [Ny379.out, List.length_set] using h_)
                               have ql380 : ((x8_1 : Int) < ((x7_3.length : Int) : Int)) = True := eq_true (of_decide_eq_true (by first | (with_reducible assumption) | assumption))
                               obtain ⟨ad380, A380_0, c380_0, e380, hx380_0, hl380_0, hi380_0⟩ := at_L7 (Kd.S_reads' HO_7.out).2.2 x8_1 p380 q380
                               obtain rfl : (⟨go15, 0, none⟩ : Addr) = ad380 := (by injection e380)
                               obtain ⟨ce380, hce380, hMe380, hcc380⟩ := Kd.S_get HO_7.out [] x8_1 p380 (by first | exact q380 | exact of_decide_eq_true (by first | (with_reducible assumption) | assumption) | (have e_ := (Kd.S_reads' HO_7.out).1; omega))
                               obtain ⟨ve380_0, rfl, ge380_0⟩ := hMe380
                               have hv380_0 := hcc380 0 _ rfl
                               rw [Nat.add_zero, show ((Kd.slice 71 k71)).sz = 1 from rfl, Nat.mul_one] at hv380_0
                               replace hv380_0 := Option.some.inj (hv380_0.symm.trans hx380_0)
                               rw [hv380_0] at ge380_0
                               have HL380_0 := Aside0.mk (show Kd.R k71 71 _ _ _ _ (rd_L7 y379 x8_1) from ge380_0)
                               clear hv380_0 ge380_0
                               have HX380_0 := Aside0.mk hx380_0
                               clear hcc380 hce380
                               (first | simp only [add_plain] at hx380_0 | simp only [add_at] at hx380_0 | simp only [Addr.add, Nat.zero_add] at hx380_0 | skip)
                               have HR380_0 := Aside0.mk hi380_0
                               have HC380_0 := Aside0.mk hl380_0
                               clear hi380_0 hl380_0
                               replace p380 := eq_true p380
                               replace q380 := eq_true q380
                               have p381 : 0 ≤ (x53_2 : Int) := of_decide_eq_true (by first | (with_reducible assumption) | assumption)
                               have q381 : x53_2 < ((rd_L7 y379 x8_1).length : Int) := of_decide_eq_true (by first | (with_reducible assumption) | assumption)
                               obtain ⟨ad381, e381, hx381_0, hx381_1⟩ := at_T71 (by repeat (first | (with_reducible exact HR380_0.out) | (with_reducible refine Kd.C_alloc ?_ _) | (with_reducible refine Kd.C_drewN ?_ _) | (with_reducible refine Kd.C_drew ?_) | exact HR380_0.out)) x53_2 p381 q381
                               cases e381
                               replace p381 := eq_true p381
                               replace q381 := eq_true q381
                               have p52 : 0 ≤ (x53_2 : Int) := of_decide_eq_true (by first | (with_reducible assumption) | assumption)
                               have q52 : (x53_2 : Int) < (((rd_L7 y379 x8_1).length : Int) : Int) := of_decide_eq_true (by first | (with_reducible assumption) | assumption)
                               obtain ⟨go52, co52, eo52, gb52, gl52, cl52, HG52⟩ := Kd.R_form HL380_0.out (by omega)
                               (first | cases eo52 | (injection eo52 with ea_ en_ ec_; (first | subst ea_ | (injection ea_ with ea_; subst ea_)); subst ec_; clear en_))
                               have GB52 := Aside0.mk gb52
                               have GG52 := Aside0.mk HG52
                               clear gb52 gl52 HG52
                               (first | simp only [add_plain] at hx381_0 | skip)
                               (first | simp only [add_plain] at hx381_1 | skip)
                               obtain ⟨ce52, hcl52, hM52, hcc52, hfr52⟩ := Kd.R_elem HL380_0.out z71 (x53_2 : Int) p52 q52
                               obtain rfl := k71_openM hM52
                               have hx52_0 : World.cell? _ ⟨go52, (x53_2 : Int).toNat * 2, none⟩ = some (.int .i64 ((rd_T71 (rd_L7 y379 x8_1) x53_2).f0)) := hcc52 0 _ rfl
                               have hx52_1 : World.cell? _ ⟨go52, (x53_2 : Int).toNat * 2 + 1, none⟩ = some (.int .i64 ((rd_T71 (rd_L7 y379 x8_1) x53_2).f1)) := hcc52 1 _ rfl
                               have hf52_0 : World.frozen? _ ⟨go52, (x53_2 : Int).toNat * 2, none⟩ = false := hfr52 0
                               have hf52_1 : World.frozen? _ ⟨go52, (x53_2 : Int).toNat * 2 + 1, none⟩ = false := hfr52 1
                               clear hcl52 hcc52 hfr52; (try clear hM52)
                               replace p52 := eq_true p52
                               replace q52 := eq_true q52
                               have hq66 : (x8_1 : Int) < (y379.length : Int) := (by have h_ : (x8_1 : Int) < ((x7_3.length : Int) : Int) := of_decide_eq_true (by first | (with_reducible assumption) | assumption); first | exact h_ | (have e_ := (Kd.S_reads' HO_7.out).1; omega) | simpa only [Ny379.out, List.length_set] using h_)
                               obtain ⟨oki66, ce66, hcl66, hM66, hcc66, hok66, hbk66⟩ := Kd.S_borrow HO_7.out [] (x8_1 : Int) (of_decide_eq_true (by first | (with_reducible assumption) | assumption)) (by first | exact hq66 | (have e_ := (Kd.S_reads' HO_7.out).1; omega))
                               obtain ⟨ve66_0, rfl, ge66_0⟩ := hM66
                               have hv66 := hcc66 0 _ rfl
                               rw [Nat.add_zero, show ((Kd.slice 71 k71)).sz = 1 from rfl, Nat.mul_one] at hv66
                               replace hv66 := Option.some.inj (hv66.symm.trans HX380_0.out)
                               subst hv66
                               clear hcc66 hcl66
                               replace ge66_0 := (show Kd.R k71 71 _ _ _ _ (rd_L7 y379 x8_1) from ge66_0)
                               obtain ⟨cf66, hcl66, hN66, hcc66, hfr66⟩ := Kd.R_elem ge66_0 z71 (x53_2 : Int) (of_decide_eq_true (by first | (with_reducible assumption) | assumption)) (by have h_ : (x53_2 : Int) < (((rd_L7 y379 x8_1).length : Int) : Int) := of_decide_eq_true (by first | (with_reducible assumption) | assumption); first | exact h_ | (have e_ := (Kd.R_reads' HR380_0.out).1; omega) | simpa using h_)
                               obtain rfl := k71_openM hN66
                               have HP66 := Kd.R_seg ge66_0 (x53_2 : Int) (of_decide_eq_true (by first | (with_reducible assumption) | assumption)) (by have h_ : (x53_2 : Int) < (((rd_L7 y379 x8_1).length : Int) : Int) := of_decide_eq_true (by first | (with_reducible assumption) | assumption); first | exact h_ | (have e_ := (Kd.R_reads' HR380_0.out).1; omega) | simpa using h_) (seg := [.int .i64 (wrap64 (((rd_T71 (rd_L7 y379 x8_1) x53_2).f0) + ((rd_T71 (rd_L7 x7_3 (ji37)) (ji40)).f0)))]) (j := 0) hcl66 hcc66 (show 1 ≤ 2 from by decide) (x' := (⟨wrap64 (((rd_T71 (rd_L7 y379 x8_1) x53_2).f0) + ((rd_T71 (rd_L7 x7_3 (ji37)) (ji40)).f0)), (rd_T71 (rd_L7 y379 x8_1) x53_2).f1⟩ : S71)) (k71_mkM _ _ _ (⟨wrap64 (((rd_T71 (rd_L7 y379 x8_1) x53_2).f0) + ((rd_T71 (rd_L7 x7_3 (ji37)) (ji40)).f0)), (rd_T71 (rd_L7 y379 x8_1) x53_2).f1⟩ : S71)) (fun _ hk => hk)
                               clear hcl66 hcc66 hfr66; (try clear hN66)
                               rw [← Ny382.out] at HP66
                               have HS66 := hbk66 HP66.2 (fun k_ e_ => by injection e_ with e_; subst e_; exact ge66_0.1 _ rfl) (x' := y382) (Kd.M_row HP66.1)
                               rw [← Ny384.out] at HS66
                               have HQ66 := Aside0.mk HS66
                               clear HP66 HS66 hbk66 hok66
                               refine start_ (n := 14) (S := fun w' => w'.cell? ⟨gb372, 0, none⟩ = some (.int .i64 ((rd_T71 (rd_L7 x7_3 (ji37)) (ji40)).f0)) ∧ w'.cell? ⟨gb372, 1, none⟩ = some (.int .i64 ((rd_T71 (rd_L7 x7_3 (ji37)) (ji40)).f1)) ∧ w'.cell? ⟨go15, (x8_1).toNat, none⟩ = some (.slice (some ⟨go52, 0, none⟩) (rd_L7 y379 x8_1).length c380_0) ∧ w'.cell? ⟨go52, ((x53_2).toNat * 2), none⟩ = some (.int .i64 ((rd_T71 (rd_L7 y379 x8_1) x53_2).f0)) ∧ w'.cell? ⟨go52, ((x53_2).toNat * 2) + 1, none⟩ = some (.int .i64 ((rd_T71 (rd_L7 y379 x8_1) x53_2).f1))) (ds := [13]) #[false, false, false, false, false, false, false, false, false, false, false, false, false, false] (by kernel_rfl) rfl rfl ⟨(blk_cell BK372.out 0).trans rfl, (blk_cell BK372.out 1).trans rfl, hx380_0, hx381_0, hx381_1⟩ (fun hHeld => ?_); refine with_tabW impl_fillings.tab20 impl_fillings.bits20 (fun HT_ HW_ => ?_)
                               generalize w64.drew = w65 at HO_7 BK372 BK375 HB GG52 HL380_0 HQ62 HQ66 HR380_0 HX380_0 hf52_0 hf52_1 hx380_0 hx381_0 hx381_1 hx52_0 hx52_1 hHeld ⊢
                               refine pure_ (i := 0) (N := some 118) (v := ?_) (a' := ?_) #[true, false, false, false, false, false, false, false, false, false, false, false, false, false] rfl rfl (any_of HT_.out (by kernel_rfl)) (fun _ _ _ h => h) (Or.inl ⟨by rfl, ?_⟩) ?_ ?_
                               rotate_left
                               ·
                                intro w'
                                go_simp
                                with_reducible rfl
                               rotate_left
                               ·
                                simp only [Act.put, List.setIfInBounds_toArray, List.set_cons_zero, List.set_cons_succ, i64_w, i32_w]
                                rfl
                               refine pure_ (i := 1) (N := some 119) (v := ?_) (a' := ?_) #[true, true, false, false, false, false, false, false, false, false, false, false, false, false] rfl rfl (any_of HT_.out (by kernel_rfl)) (fun _ _ _ h => h) (Or.inl ⟨by rfl, ?_⟩) ?_ ?_
                               rotate_left
                               ·
                                intro w'
                                go_simp
                                with_reducible rfl
                               rotate_left
                               ·
                                simp only [Act.put, List.setIfInBounds_toArray, List.set_cons_zero, List.set_cons_succ, i64_w, i32_w]
                                rfl
                               refine pure_ (i := 2) (N := some 120) (v := ?_) (a' := ?_) #[true, true, true, false, false, false, false, false, false, false, false, false, false, false] rfl rfl (any_of HT_.out (by kernel_rfl)) (fun _ _ _ h => h) (Or.inl ⟨by rfl, ?_⟩) ?_ ?_
                               rotate_left
                               ·
                                intro w'
                                go_simp
                                with_reducible rfl
                               rotate_left
                               ·
                                simp only [Act.put, List.setIfInBounds_toArray, List.set_cons_zero, List.set_cons_succ, i64_w, i32_w]
                                rfl
                               refine pure_ (i := 4) (N := some 122) (v := ?_) (a' := ?_) #[true, true, true, false, true, false, false, false, false, false, false, false, false, false] rfl rfl (any_of HT_.out (by kernel_rfl)) (fun _ _ _ h => h) (Or.inl ⟨by rfl, ?_⟩) ?_ ?_
                               rotate_left
                               ·
                                intro w'
                                go_simp
                                with_reducible rfl
                               rotate_left
                               ·
                                simp only [Act.put, List.setIfInBounds_toArray, List.set_cons_zero, List.set_cons_succ, i64_w, i32_w]
                                rfl
                               refine pure_ (i := 8) (N := some 126) (v := ?_) (a' := ?_) #[true, true, true, false, true, false, false, false, true, false, false, false, false, false] rfl rfl (any_of HT_.out (by kernel_rfl)) (fun _ _ _ h => h) (Or.inl ⟨by rfl, ?_⟩) ?_ ?_
                               rotate_left
                               ·
                                intro w'
                                go_simp
                                with_reducible rfl
                               rotate_left
                               ·
                                simp only [Act.put, List.setIfInBounds_toArray, List.set_cons_zero, List.set_cons_succ, i64_w, i32_w]
                                rfl
                               refine take_ (i := 3) (N := some 121) (v := ?_) (a' := ?_) #[true, true, true, true, true, false, false, false, true, false, false, false, false, false] rfl rfl (take_ofW HT_.out HW_.out (by kernel_rfl)) (fun _ _ _ h => h) (Or.inl ⟨by rfl, ?_⟩) hHeld ?_ ?_
                               rotate_left
                               ·
                                rintro w' ⟨s0, s1, s2, s3, s4⟩
                                go_simp
                                with_reducible rfl
                               rotate_left
                               ·
                                simp only [Act.put, List.setIfInBounds_toArray, List.set_cons_zero, List.set_cons_succ, i64_w, i32_w]
                                rfl
                               refine pure_ (i := 5) (N := some 123) (v := ?_) (a' := ?_) #[true, true, true, true, true, true, false, false, true, false, false, false, false, false] rfl rfl (any_of HT_.out (by kernel_rfl)) (fun _ _ _ h => h) (Or.inl ⟨by rfl, ?_⟩) ?_ ?_
                               rotate_left
                               ·
                                intro w'
                                go_simp
                                with_reducible rfl
                               rotate_left
                               ·
                                simp only [Act.put, List.setIfInBounds_toArray, List.set_cons_zero, List.set_cons_succ, i64_w, i32_w]
                                rfl
                               refine pure_ (i := 6) (N := some 124) (v := ?_) (a' := ?_) #[true, true, true, true, true, true, true, false, true, false, false, false, false, false] rfl rfl (any_of HT_.out (by kernel_rfl)) (fun _ _ _ h => h) (Or.inl ⟨by rfl, ?_⟩) ?_ ?_
                               rotate_left
                               ·
                                intro w'
                                go_simp
                                with_reducible rfl
                               rotate_left
                               ·
                                simp only [Act.put, List.setIfInBounds_toArray, List.set_cons_zero, List.set_cons_succ, i64_w, i32_w]
                                rfl
                               refine take_ (i := 7) (N := some 125) (v := ?_) (a' := ?_) #[true, true, true, true, true, true, true, true, true, false, false, false, false, false] rfl rfl (take_ofW HT_.out HW_.out (by kernel_rfl)) (fun _ _ _ h => h) (Or.inl ⟨by rfl, ?_⟩) hHeld ?_ ?_
                               rotate_left
                               ·
                                rintro w' ⟨s0, s1, s2, s3, s4⟩
                                go_simp
                                with_reducible rfl
                               rotate_left
                               ·
                                simp only [Act.put, List.setIfInBounds_toArray, List.set_cons_zero, List.set_cons_succ, i64_w, i32_w]
                                rfl
                               refine take_ (i := 9) (N := some 127) (v := ?_) (a' := ?_) #[true, true, true, true, true, true, true, true, true, true, false, false, false, false] rfl rfl (take_ofW HT_.out HW_.out (by kernel_rfl)) (fun _ _ _ h => h) (Or.inl ⟨by rfl, ?_⟩) hHeld ?_ ?_
                               rotate_left
                               ·
                                rintro w' ⟨s0, s1, s2, s3, s4⟩
                                go_simp
                                with_reducible rfl
                               rotate_left
                               ·
                                simp only [Act.put, List.setIfInBounds_toArray, List.set_cons_zero, List.set_cons_succ, i64_w, i32_w]
                                rfl
                               refine pure_ (i := 10) (N := some 128) (v := ?_) (a' := ?_) #[true, true, true, true, true, true, true, true, true, true, true, false, false, false] rfl rfl (any_of HT_.out (by kernel_rfl)) (fun _ _ _ h => h) (Or.inl ⟨by rfl, ?_⟩) ?_ ?_
                               rotate_left
                               ·
                                intro w'
                                go_simp
                                with_reducible rfl
                               rotate_left
                               ·
                                simp only [Act.put, List.setIfInBounds_toArray, List.set_cons_zero, List.set_cons_succ, i64_w, i32_w]
                                rfl
                               refine pure_ (i := 11) (N := some 129) (v := ?_) (a' := ?_) #[true, true, true, true, true, true, true, true, true, true, true, true, false, false] rfl rfl (any_of HT_.out (by kernel_rfl)) (fun _ _ _ h => h) (Or.inl ⟨by rfl, ?_⟩) ?_ ?_
                               rotate_left
                               ·
                                intro w'
                                go_simp
                                with_reducible rfl
                               rotate_left
                               ·
                                simp only [Act.put, List.setIfInBounds_toArray, List.set_cons_zero, List.set_cons_succ, i64_w, i32_w]
                                rfl
                               refine pure_ (i := 12) (N := some 130) (v := ?_) (a' := ?_) #[true, true, true, true, true, true, true, true, true, true, true, true, true, false] rfl rfl (any_of HT_.out (by kernel_rfl)) (fun _ _ _ h => h) (Or.inl ⟨by rfl, ?_⟩) ?_ ?_
                               rotate_left
                               ·
                                intro w'
                                go_simp
                                with_reducible rfl
                               rotate_left
                               ·
                                simp only [Act.put, List.setIfInBounds_toArray, List.set_cons_zero, List.set_cons_succ, i64_w, i32_w]
                                rfl
                               refine last_ (i := 13) (N := none) #[true, true, true, true, true, true, true, true, true, true, true, true, true, true] rfl rfl (one_of HT_.out (by kernel_rfl)) (by decide) (fun K hK => ?_)
                               refine skip_ (w1 := ?_) (by rfl) rfl ?_ ?_
                               rotate_left
                               ·
                                go_simp
                                rfl
                               refine hK.out _ _ ?_
                               clear hK K
                               refine done_ (done_of HT_.out (by kernel_rfl)) ?_
                               try go_wp2
                               (try simp only [← hl7_3])
                               go_roundg k3
                               case measure => have := HK1.out; have := HK2.out; have := HK3.out; omega
                               case rel => exact ⟨(y384), (wrap64 (x11_3 + 1)), (by first | rfl | (simp; done) | (simp [*]; done)), H', ⟨by have := HK1.out; have := HK2.out; have := HK3.out; omega⟩, ⟨by (try simp only [hl7_2]); (try simp only [hl7_3]); (with_reducible repeat (first | apply Kd.S_alloc | apply Kd.S_drewN | apply Kd.S_drew)); exact Kd.S_mono HQ66.out (fun _ hk => trivial)⟩, ⟨by repeat (first | (with_reducible first | exact HB.out | apply below_alloc | apply pw_below_drewN | apply below_drew1 | refine below_set ?_ GB52.out | refine below_set ?_ GE372.out | refine below_set ?_ GE375.out) | exact HB.out)⟩⟩
                              ·
                               rw [if_neg c51] at H
                               exact absurd H (by simp)
                             ·
                              rw [if_neg c49] at H
                              have c49b0 : (((rd_T71 (rd_L7 x7_3 x8_1) x53_2).f0) == 0) = false := beq_eq_false_iff_ne.mpr c49
                              have c49b1 : (((rd_T71 (rd_L7 x7_3 x8_1) x53_2).f0) != 0) = true := bne_iff_ne.mpr c49
                              by_cases c68 : (wrap64 (((rd_T71 (rd_L7 x7_3 (ji37)) (ji40)).f1) + x11_3)) < ((rd_T71 (rd_L7 x7_3 x8_1) x53_2).f1)
                              ·
                               rw [if_pos c68] at H
                               have c68b0 : decide ((wrap64 (((rd_T71 (rd_L7 x7_3 (ji37)) (ji40)).f1) + x11_3)) < ((rd_T71 (rd_L7 x7_3 x8_1) x53_2).f1)) = true := decide_eq_true c68
                               clear c68
                               obtain ⟨y386, hy386⟩ : ∃ y_ : List (S71), y_ = ((rd_L7 x7_3 x8_1).set (x53_2 : Int).toNat (⟨(rd_T71 (rd_L7 x7_3 x8_1) x53_2).f0, wrap64 (((rd_T71 (rd_L7 x7_3 (ji37)) (ji40)).f1) + x11_3)⟩ : S71)) := ⟨_, rfl⟩
                               replace H : ((some (x7_3.set (x8_1 : Int).toNat y386 : List (List (S71)))).bind fun y388 => (if x53_2 < ((rd_L7 y388 x8_1).length : Int) then (impl_fillings.l2 k3 l0 a1 a2 (y388.set (x8_1 : Int).toNat ((rd_L7 y388 x8_1).set (x53_2 : Int).toNat (⟨wrap64 (((rd_T71 (rd_L7 y388 x8_1) x53_2).f0) + ((rd_T71 (rd_L7 x7_3 (ji37)) (ji40)).f0)), (rd_T71 (rd_L7 y388 x8_1) x53_2).f1⟩ : S71))) x8_1 (wrap64 ((wrap64 ((rd_T66 l0 x8_1).f0)) + a2)) x53_2 (wrap64 (x11_3 + 1)) ((rd_L7 y362 x8_1).length : Int) x53_2) else (none))) = some r := by first | (rw [hy386]; with_reducible exact H) | (have H2_ := (Option.bind_some _ _).symm.trans H; rw [hy386]; with_reducible exact H2_) | (have H2_ := (Option.bind_some _ _).symm.trans H; with_reducible exact H2_) | with_reducible exact H | (rw [hy386]; exact H) | exact H
                               have Ny386 := Aside0.mk hy386
                               clear hy386
                               obtain ⟨y388, hy388⟩ : ∃ y_ : List (List (S71)), y_ = (x7_3.set (x8_1 : Int).toNat y386) := ⟨_, rfl⟩
                               replace H : (if x53_2 < ((rd_L7 y388 x8_1).length : Int) then (impl_fillings.l2 k3 l0 a1 a2 (y388.set (x8_1 : Int).toNat ((rd_L7 y388 x8_1).set (x53_2 : Int).toNat (⟨wrap64 (((rd_T71 (rd_L7 y388 x8_1) x53_2).f0) + ((rd_T71 (rd_L7 x7_3 (ji37)) (ji40)).f0)), (rd_T71 (rd_L7 y388 x8_1) x53_2).f1⟩ : S71))) x8_1 (wrap64 ((wrap64 ((rd_T66 l0 x8_1).f0)) + a2)) x53_2 (wrap64 (x11_3 + 1)) ((rd_L7 y362 x8_1).length : Int) x53_2) else (none)) = some r := by first | (rw [hy388]; with_reducible exact H) | (have H2_ := (Option.bind_some _ _).symm.trans H; rw [hy388]; with_reducible exact H2_) | (have H2_ := (Option.bind_some _ _).symm.trans H; with_reducible exact H2_) | with_reducible exact H | (rw [hy388]; exact H) | exact H
                               have Ny388 := Aside0.mk hy388
                               clear hy388
                               by_cases c70 : x53_2 < ((rd_L7 y388 x8_1).length : Int)
                               ·
                                rw [if_pos c70] at H
                                have c70b0 : decide (x53_2 < ((rd_L7 y388 x8_1).length : Int)) = true := decide_eq_true c70
                                clear c70
                                obtain ⟨y391, hy391⟩ : ∃ y_ : List (S71), y_ = ((rd_L7 y388 x8_1).set (x53_2 : Int).toNat (⟨wrap64 (((rd_T71 (rd_L7 y388 x8_1) x53_2).f0) + ((rd_T71 (rd_L7 x7_3 (ji37)) (ji40)).f0)), (rd_T71 (rd_L7 y388 x8_1) x53_2).f1⟩ : S71)) := ⟨_, rfl⟩
                                replace H : (impl_fillings.l2 k3 l0 a1 a2 (y388.set (x8_1 : Int).toNat y391) x8_1 (wrap64 ((wrap64 ((rd_T66 l0 x8_1).f0)) + a2)) x53_2 (wrap64 (x11_3 + 1)) ((rd_L7 y362 x8_1).length : Int) x53_2) = some r := by first | (rw [hy391]; with_reducible exact H) | (have H2_ := (Option.bind_some _ _).symm.trans H; rw [hy391]; with_reducible exact H2_) | (have H2_ := (Option.bind_some _ _).symm.trans H; with_reducible exact H2_) | with_reducible exact H | (rw [hy391]; exact H) | exact H
                                have Ny391 := Aside0.mk hy391
                                clear hy391
                                obtain ⟨y393, hy393⟩ : ∃ y_ : List (List (S71)), y_ = (y388.set (x8_1 : Int).toNat y391) := ⟨_, rfl⟩
                                replace H : (impl_fillings.l2 k3 l0 a1 a2 y393 x8_1 (wrap64 ((wrap64 ((rd_T66 l0 x8_1).f0)) + a2)) x53_2 (wrap64 (x11_3 + 1)) ((rd_L7 y362 x8_1).length : Int) x53_2) = some r := by first | (rw [hy393]; with_reducible exact H) | (have H2_ := (Option.bind_some _ _).symm.trans H; rw [hy393]; with_reducible exact H2_) | (have H2_ := (Option.bind_some _ _).symm.trans H; with_reducible exact H2_) | with_reducible exact H | (rw [hy393]; exact H) | exact H
                                have Ny393 := Aside0.mk hy393
                                clear hy393
                                have H' := Aside0.mk H
                                clear H
                                have p369 : 0 ≤ (x8_1 : Int) := of_decide_eq_true (by first | (with_reducible assumption) | assumption)
                                have q369 : x8_1 < (l0.length : Int) := of_decide_eq_true (by first | (with_reducible assumption) | assumption)
                                obtain ⟨ad369, e369, hx369_0, hx369_1⟩ := at_T66 HR0.out x8_1 p369 q369
                                obtain rfl : ad367 = ad369 := (by injection e369)
                                replace hx369_0 := (HB.out.cell (World.block_lt_of_cell? w _ hx369_0)).trans hx369_0
                                replace hx369_1 := (HB.out.cell (World.block_lt_of_cell? w _ hx369_1)).trans hx369_1
                                replace p369 := eq_true p369
                                replace q369 := eq_true q369
                                have p370 : 0 ≤ ((ji37) : Int) := of_decide_eq_true (by first | (with_reducible assumption) | assumption)
                                have q370 : (ji37) < (x7_3.length : Int) := of_decide_eq_true (by first | (with_reducible assumption) | assumption)
                                obtain ⟨ad370, A370_0, c370_0, e370, hx370_0, hl370_0, hi370_0⟩ := at_L7 (Kd.S_reads' HO_7.out).2.2 (ji37) p370 q370
                                obtain rfl : (⟨go15, 0, none⟩ : Addr) = ad370 := (by injection e370)
                                obtain ⟨ce370, hce370, hMe370, hcc370⟩ := Kd.S_get HO_7.out [] (ji37) p370 (by first | exact q370 | exact of_decide_eq_true (by first | (with_reducible assumption) | assumption) | (have e_ := (Kd.S_reads' HO_7.out).1; omega))
                                obtain ⟨ve370_0, rfl, ge370_0⟩ := hMe370
                                have hv370_0 := hcc370 0 _ rfl
                                rw [Nat.add_zero, show ((Kd.slice 71 k71)).sz = 1 from rfl, Nat.mul_one] at hv370_0
                                replace hv370_0 := Option.some.inj (hv370_0.symm.trans hx370_0)
                                rw [hv370_0] at ge370_0
                                have HL370_0 := Aside0.mk (show Kd.R k71 71 _ _ _ _ (rd_L7 x7_3 (ji37)) from ge370_0)
                                clear hv370_0 ge370_0
                                have HX370_0 := Aside0.mk hx370_0
                                clear hcc370 hce370
                                (first | simp only [add_plain] at hx370_0 | simp only [add_at] at hx370_0 | simp only [Addr.add, Nat.zero_add] at hx370_0 | skip)
                                have HR370_0 := Aside0.mk hi370_0
                                have HC370_0 := Aside0.mk hl370_0
                                clear hi370_0 hl370_0
                                replace p370 := eq_true p370
                                replace q370 := eq_true q370
                                have p371 : 0 ≤ ((ji40) : Int) := of_decide_eq_true (by first | (with_reducible assumption) | assumption)
                                have q371 : (ji40) < ((rd_L7 x7_3 (ji37)).length : Int) := of_decide_eq_true (by first | (with_reducible assumption) | assumption)
                                obtain ⟨ad371, e371, hx371_0, hx371_1⟩ := at_T71 (by repeat (first | (with_reducible exact HR370_0.out) | (with_reducible refine Kd.C_alloc ?_ _) | (with_reducible refine Kd.C_drewN ?_ _) | (with_reducible refine Kd.C_drew ?_) | exact HR370_0.out)) (ji40) p371 q371
                                cases e371
                                replace p371 := eq_true p371
                                replace q371 := eq_true q371
                                try go_wp2_with (first | ((with_reducible refine gate_dst (N := 12) rfl ?_); refine box_event ?hg (N := 12) ?hd (cs := #[.int .i64 0, .int .i64 0]) (t := 71) ?hr ?_; (case hd => rfl); (case hg => rfl); (case hr => first | (go_simp; done) | (go_simp; rfl)); intro gb372 hg w72 hbox hb; have n0_ := Aside0.mk (Kd.S_below (Kd.S_elderB (by (with_reducible repeat (first | apply Kd.S_alloc | apply Kd.S_drewN | apply Kd.S_drew)); exact HO_7.out) gb372 (Nat.le_of_eq hg.symm)) hb); have n1_ := Aside0.mk (Kd.R_below (Kd.R_elderB (by (with_reducible repeat (first | apply Kd.R_alloc | apply Kd.R_drewN | apply Kd.R_drew)); exact HL370_0.out) gb372 (Nat.le_of_eq hg.symm)) hb); have n2_ := Aside0.mk (Kd.C_below (by repeat (first | (with_reducible exact HR370_0.out) | (with_reducible refine Kd.C_alloc ?_ _) | (with_reducible refine Kd.C_drewN ?_ _) | (with_reducible refine Kd.C_drew ?_) | exact HR370_0.out)) hb); have n3_ := Aside0.mk (pw_cell_below hb HX370_0.out); have n4_ := Aside0.mk (below_step (by repeat (first | (with_reducible first | exact HB.out | apply below_alloc | apply pw_below_drewN | apply below_drew1) | exact HB.out)) hb); have n5_ := Aside0.mk (hbox); have n6_ := Aside0.mk ((by rw [hg]; exact (below_size (by repeat (first | (with_reducible first | exact HB.out | apply below_alloc | apply pw_below_drewN | apply below_drew1) | exact HB.out))) : w.heap.size ≤ gb372)); have n7_ := Aside0.mk ((by rw [hg]; exact (below_size (by repeat (first | (with_reducible first | exact HB.out | apply below_alloc | apply pw_below_drewN | apply below_drew1) | exact HB.out))) : w.heap.size ≤ gb372)); clear HO_7; clear HL370_0; clear HR370_0; clear HX370_0; clear HB; have HO_7 := n0_; have HL370_0 := n1_; have HR370_0 := n2_; have HX370_0 := n3_; have HB := n4_; have BK372 := n5_; have GW372 := n6_; have GE372 := n7_; clear n0_ n1_ n2_ n3_ n4_ n5_ n6_ n7_; clear hb hbox hg; have hcz73_0 : w72.cell? ⟨gb372, 0, none⟩ = some (.int .i64 0) := (blk_cell BK372.out 0).trans rfl; have hcz73_1 : w72.cell? ⟨gb372, 1, none⟩ = some (.int .i64 0) := (blk_cell BK372.out 1).trans rfl; have hfz73_0 := blk_frozen BK372.out 0; have hfz73_1 := blk_frozen BK372.out 1) | ((with_reducible refine gate_store (t := 71) (p := 12) rfl ?_); refine store_event (t := 71) (p := 12) (v := ?vo_w74) (w1 := ((w72.setCell ⟨gb372, 0, none⟩ (.int .i64 ((rd_T71 (rd_L7 x7_3 (ji37)) (ji40)).f0))).setCell ⟨gb372, 1, none⟩ (.int .i64 ((rd_T71 (rd_L7 x7_3 (ji37)) (ji40)).f1)))) ?hg ?ho ?hn ?hr ?_; (case ho => rfl); (case hg => rfl); (case hn => rfl); (case hr => first | (go_simp; done) | (go_simp; rfl)); intro w74 hw; have n0_ : Aside0 (Kd.S (Kd.slice 71 k71) 72 w74 w.heap.size (fun k_ => k_ ≠ gb372) (.slice (some ⟨go15, 0, none⟩) x7_3.length co15) x7_3) := ⟨(by rw [hw]; exact (by (with_reducible repeat (first | apply Kd.S_alloc | apply Kd.S_drewN | apply Kd.S_drew)); exact Kd.S_mono (Kd.S_far (p := ⟨gb372, 1, none⟩) (Kd.S_far (p := ⟨gb372, 0, none⟩) (Kd.S_mono HO_7.out (fun k_ hk => (⟨hk, hk.2⟩ : _ ∧ k_ ≠ gb372))) (fun _ hk => hk.2) (.int .i64 ((rd_T71 (rd_L7 x7_3 (ji37)) (ji40)).f0))) (fun _ hk => hk.2) (.int .i64 ((rd_T71 (rd_L7 x7_3 (ji37)) (ji40)).f1))) (fun _ hk => hk.1.2)))⟩; have n1_ : Aside0 (Kd.R k71 71 w74 w.heap.size (fun k_ => some k_ ≠ (.slice (some ⟨go15, 0, none⟩) x7_3.length co15 : Value).ownBlock ∧ k_ ≠ gb372) (.slice (some ad371) (rd_L7 x7_3 (ji37)).length c370_0) (rd_L7 x7_3 (ji37))) := ⟨(by rw [hw]; exact (by (with_reducible repeat (first | apply Kd.R_alloc | apply Kd.R_drewN | apply Kd.R_drew)); exact Kd.R_mono (Kd.R_far (p := ⟨gb372, 1, none⟩) (Kd.R_far (p := ⟨gb372, 0, none⟩) (Kd.R_mono HL370_0.out (fun k_ hk => (⟨hk, hk.2⟩ : _ ∧ k_ ≠ gb372))) (fun _ hk => hk.2) (.int .i64 ((rd_T71 (rd_L7 x7_3 (ji37)) (ji40)).f0))) (fun _ hk => hk.2) (.int .i64 ((rd_T71 (rd_L7 x7_3 (ji37)) (ji40)).f1))) (fun _ hk => ⟨hk.1.1.2, hk.1.2⟩)))⟩; have n2_ : Aside0 (w74.heap[gb372]? = some (.cells #[.int .i64 ((rd_T71 (rd_L7 x7_3 (ji37)) (ji40)).f0), .int .i64 ((rd_T71 (rd_L7 x7_3 (ji37)) (ji40)).f1)] 71 (0, 0))) := ⟨(by rw [hw]; exact (by (with_reducible repeat (first | refine blk_drewN ?_ _ | refine blk_drew ?_ | refine blk_alloc ?_ _)); refine blk_put (cs := #[.int .i64 ((rd_T71 (rd_L7 x7_3 (ji37)) (ji40)).f0), .int .i64 0]) ?_ 1 _ rfl; (with_reducible repeat (first | refine blk_drewN ?_ _ | refine blk_drew ?_ | refine blk_alloc ?_ _)); refine blk_put (cs := #[.int .i64 0, .int .i64 0]) ?_ 0 _ rfl; (with_reducible repeat (first | refine blk_drewN ?_ _ | refine blk_drew ?_ | refine blk_alloc ?_ _)); exact BK372.out))⟩; have n3_ : Aside0 (Below w.heap.size w w74) := ⟨(by rw [hw]; exact (by repeat (first | (with_reducible first | exact HB.out | apply below_alloc | apply pw_below_drewN | apply below_drew1 | refine below_set ?_ GE372.out) | exact HB.out)))⟩; clear hw; clear HO_7; clear HL370_0; clear BK372; clear HB; have HO_7 := n0_; have HL370_0 := n1_; have BK372 := n2_; have HB := n3_; clear n0_ n1_ n2_ n3_; have hcz75_0 : w74.cell? ⟨gb372, 0, none⟩ = some (.int .i64 ((rd_T71 (rd_L7 x7_3 (ji37)) (ji40)).f0)) := (blk_cell BK372.out 0).trans rfl; have hcz75_1 : w74.cell? ⟨gb372, 1, none⟩ = some (.int .i64 ((rd_T71 (rd_L7 x7_3 (ji37)) (ji40)).f1)) := (blk_cell BK372.out 1).trans rfl; have hfz75_0 := blk_frozen BK372.out 0; have hfz75_1 := blk_frozen BK372.out 1; have p373 : 0 ≤ (x8_1 : Int) := of_decide_eq_true (by first | (with_reducible assumption) | assumption); have q373 : x8_1 < (x7_3.length : Int) := of_decide_eq_true (by first | (with_reducible assumption) | assumption); obtain ⟨ad373, A373_0, c373_0, e373, hx373_0, hl373_0, hi373_0⟩ := at_L7 (Kd.S_reads' HO_7.out).2.2 x8_1 p373 q373; obtain rfl : (⟨go15, 0, none⟩ : Addr) = ad373 := (by injection e373); obtain ⟨ce373, hce373, hMe373, hcc373⟩ := Kd.S_get HO_7.out [] x8_1 p373 (by first | exact q373 | exact of_decide_eq_true (by first | (with_reducible assumption) | assumption) | (have e_ := (Kd.S_reads' HO_7.out).1; omega)); obtain ⟨ve373_0, rfl, ge373_0⟩ := hMe373; have hv373_0 := hcc373 0 _ rfl; rw [Nat.add_zero, show ((Kd.slice 71 k71)).sz = 1 from rfl, Nat.mul_one] at hv373_0; replace hv373_0 := Option.some.inj (hv373_0.symm.trans hx373_0); rw [hv373_0] at ge373_0; have HL373_0 := Aside0.mk (show Kd.R k71 71 _ _ _ _ (rd_L7 x7_3 x8_1) from ge373_0); clear hv373_0 ge373_0; have HX373_0 := Aside0.mk hx373_0; clear hcc373 hce373; (first | simp only [add_plain] at hx373_0 | simp only [add_at] at hx373_0 | simp only [Addr.add, Nat.zero_add] at hx373_0 | skip); have HR373_0 := Aside0.mk hi373_0; have HC373_0 := Aside0.mk hl373_0; clear hi373_0 hl373_0; replace p373 := eq_true p373; replace q373 := eq_true q373; have p374 : 0 ≤ (x53_2 : Int) := of_decide_eq_true (by first | (with_reducible assumption) | assumption); have q374 : x53_2 < ((rd_L7 x7_3 x8_1).length : Int) := of_decide_eq_true (by first | (with_reducible assumption) | assumption); obtain ⟨ad374, e374, hx374_0, hx374_1⟩ := at_T71 (by repeat (first | (with_reducible exact HR373_0.out) | (with_reducible refine Kd.C_alloc ?_ _) | (with_reducible refine Kd.C_drewN ?_ _) | (with_reducible refine Kd.C_drew ?_) | exact HR373_0.out)) x53_2 p374 q374; cases e374; replace p374 := eq_true p374; replace q374 := eq_true q374) | ((with_reducible refine gate_dst (N := 13) rfl ?_); refine box_event ?hg (N := 13) ?hd (cs := #[.int .i64 0, .int .i64 0]) (t := 71) ?hr ?_; (case hd => rfl); (case hg => rfl); (case hr => first | (go_simp; done) | (go_simp; rfl)); intro gb375 hg w76 hbox hb; have n0_ := Aside0.mk (Kd.S_below (Kd.S_elderB (by (with_reducible repeat (first | apply Kd.S_alloc | apply Kd.S_drewN | apply Kd.S_drew)); exact HO_7.out) gb375 (Nat.le_of_eq hg.symm)) hb); have n1_ := Aside0.mk (Kd.R_below (Kd.R_elderB (by (with_reducible repeat (first | apply Kd.R_alloc | apply Kd.R_drewN | apply Kd.R_drew)); exact HL370_0.out) gb375 (Nat.le_of_eq hg.symm)) hb); have n2_ := Aside0.mk (Kd.R_below (Kd.R_elderB (by (with_reducible repeat (first | apply Kd.R_alloc | apply Kd.R_drewN | apply Kd.R_drew)); exact HL373_0.out) gb375 (Nat.le_of_eq hg.symm)) hb); have n3_ := Aside0.mk (blk_below (g := gb372) (o := .cells #[.int .i64 ((rd_T71 (rd_L7 x7_3 (ji37)) (ji40)).f0), .int .i64 ((rd_T71 (rd_L7 x7_3 (ji37)) (ji40)).f1)] 71 (0, 0)) (by (with_reducible repeat (first | refine blk_drewN ?_ _ | refine blk_drew ?_ | refine blk_alloc ?_ _)); exact BK372.out) hb); have n4_ := Aside0.mk (Kd.C_below (by repeat (first | (with_reducible exact HR373_0.out) | (with_reducible refine Kd.C_alloc ?_ _) | (with_reducible refine Kd.C_drewN ?_ _) | (with_reducible refine Kd.C_drew ?_) | exact HR373_0.out)) hb); have n5_ := Aside0.mk (pw_cell_below hb HX373_0.out); have n6_ := Aside0.mk (below_step (by repeat (first | (with_reducible first | exact HB.out | apply below_alloc | apply pw_below_drewN | apply below_drew1 | refine below_set ?_ GE372.out) | exact HB.out)) hb); have n7_ := Aside0.mk (hbox); have n8_ := Aside0.mk ((by rw [hg]; exact (below_size (by repeat (first | (with_reducible first | exact HB.out | apply below_alloc | apply pw_below_drewN | apply below_drew1 | refine below_set ?_ GE372.out) | exact HB.out))) : w.heap.size ≤ gb375)); have n9_ := Aside0.mk ((by rw [hg]; exact (below_size (by repeat (first | (with_reducible first | exact HB.out | apply below_alloc | apply pw_below_drewN | apply below_drew1 | refine below_set ?_ GE372.out) | exact HB.out))) : w.heap.size ≤ gb375)); have n10_ := Aside0.mk ((by rw [hg]; exact Nat.ne_of_lt (blk_lt (g := gb372) (o := .cells #[.int .i64 ((rd_T71 (rd_L7 x7_3 (ji37)) (ji40)).f0), .int .i64 ((rd_T71 (rd_L7 x7_3 (ji37)) (ji40)).f1)] 71 (0, 0)) (by (with_reducible repeat (first | refine blk_drewN ?_ _ | refine blk_drew ?_ | refine blk_alloc ?_ _)); exact BK372.out)) : gb372 ≠ gb375)); have n11_ := Aside0.mk ((by rw [hg]; exact Nat.ne_of_gt (blk_lt (g := gb372) (o := .cells #[.int .i64 ((rd_T71 (rd_L7 x7_3 (ji37)) (ji40)).f0), .int .i64 ((rd_T71 (rd_L7 x7_3 (ji37)) (ji40)).f1)] 71 (0, 0)) (by (with_reducible repeat (first | refine blk_drewN ?_ _ | refine blk_drew ?_ | refine blk_alloc ?_ _)); exact BK372.out)) : gb375 ≠ gb372)); clear HO_7; clear HL370_0; clear HL373_0; clear BK372; clear HR373_0; clear HX373_0; clear HB; have HO_7 := n0_; have HL370_0 := n1_; have HL373_0 := n2_; have BK372 := n3_; have HR373_0 := n4_; have HX373_0 := n5_; have HB := n6_; have BK375 := n7_; have GW375 := n8_; have GE375 := n9_; have NB372_375 := n10_; have NB375_372 := n11_; clear n0_ n1_ n2_ n3_ n4_ n5_ n6_ n7_ n8_ n9_ n10_ n11_; clear hb hbox hg; have hnb77 := NB375_372.out; have hnc77 := NB372_375.out; have hcz78_0 : w76.cell? ⟨gb375, 0, none⟩ = some (.int .i64 0) := (blk_cell BK375.out 0).trans rfl; have hcz78_1 : w76.cell? ⟨gb375, 1, none⟩ = some (.int .i64 0) := (blk_cell BK375.out 1).trans rfl; have hfz78_0 := blk_frozen BK375.out 0; have hfz78_1 := blk_frozen BK375.out 1; have hcz79_0 : w76.cell? ⟨gb372, 0, none⟩ = some (.int .i64 ((rd_T71 (rd_L7 x7_3 (ji37)) (ji40)).f0)) := (blk_cell BK372.out 0).trans rfl; have hcz79_1 : w76.cell? ⟨gb372, 1, none⟩ = some (.int .i64 ((rd_T71 (rd_L7 x7_3 (ji37)) (ji40)).f1)) := (blk_cell BK372.out 1).trans rfl; have hfz79_0 := blk_frozen BK372.out 0; have hfz79_1 := blk_frozen BK372.out 1))
                                have n0_ : Aside0 (Kd.S (Kd.slice 71 k71) 72 ((w76.setCell ⟨gb375, 0, none⟩ (.int .i64 ((rd_T71 (rd_L7 x7_3 x8_1) x53_2).f0))).setCell ⟨gb375, 1, none⟩ (.int .i64 ((rd_T71 (rd_L7 x7_3 x8_1) x53_2).f1))) w.heap.size (fun k_ => k_ ≠ gb372 ∧ k_ ≠ gb375) (.slice (some ⟨go15, 0, none⟩) x7_3.length co15) x7_3) := ⟨by (with_reducible repeat (first | apply Kd.S_alloc | apply Kd.S_drewN | apply Kd.S_drew)); exact Kd.S_mono (Kd.S_far (p := ⟨gb375, 1, none⟩) (Kd.S_far (p := ⟨gb375, 0, none⟩) (Kd.S_mono HO_7.out (fun k_ hk => (⟨hk, hk.2⟩ : _ ∧ k_ ≠ gb375))) (fun _ hk => hk.2) (.int .i64 ((rd_T71 (rd_L7 x7_3 x8_1) x53_2).f0))) (fun _ hk => hk.2) (.int .i64 ((rd_T71 (rd_L7 x7_3 x8_1) x53_2).f1))) (fun _ hk => ⟨hk.1.1, hk.1.2⟩)⟩
                                have n1_ : Aside0 (Kd.R k71 71 ((w76.setCell ⟨gb375, 0, none⟩ (.int .i64 ((rd_T71 (rd_L7 x7_3 x8_1) x53_2).f0))).setCell ⟨gb375, 1, none⟩ (.int .i64 ((rd_T71 (rd_L7 x7_3 x8_1) x53_2).f1))) w.heap.size (fun k_ => some k_ ≠ (.slice (some ⟨go15, 0, none⟩) x7_3.length co15 : Value).ownBlock ∧ k_ ≠ gb372 ∧ k_ ≠ gb375) (.slice (some ad371) (rd_L7 x7_3 (ji37)).length c370_0) (rd_L7 x7_3 (ji37))) := ⟨by (with_reducible repeat (first | apply Kd.R_alloc | apply Kd.R_drewN | apply Kd.R_drew)); exact Kd.R_mono (Kd.R_far (p := ⟨gb375, 1, none⟩) (Kd.R_far (p := ⟨gb375, 0, none⟩) (Kd.R_mono HL370_0.out (fun k_ hk => (⟨hk, hk.2⟩ : _ ∧ k_ ≠ gb375))) (fun _ hk => hk.2) (.int .i64 ((rd_T71 (rd_L7 x7_3 x8_1) x53_2).f0))) (fun _ hk => hk.2) (.int .i64 ((rd_T71 (rd_L7 x7_3 x8_1) x53_2).f1))) (fun _ hk => ⟨hk.1.1.1, ⟨hk.1.1.2, hk.1.2⟩⟩)⟩
                                have n2_ : Aside0 (Kd.R k71 71 ((w76.setCell ⟨gb375, 0, none⟩ (.int .i64 ((rd_T71 (rd_L7 x7_3 x8_1) x53_2).f0))).setCell ⟨gb375, 1, none⟩ (.int .i64 ((rd_T71 (rd_L7 x7_3 x8_1) x53_2).f1))) w.heap.size (fun k_ => some k_ ≠ (.slice (some ⟨go15, 0, none⟩) x7_3.length co15 : Value).ownBlock ∧ k_ ≠ gb372 ∧ k_ ≠ gb375) (.slice (some ad374) (rd_L7 x7_3 x8_1).length c373_0) (rd_L7 x7_3 x8_1)) := ⟨by (with_reducible repeat (first | apply Kd.R_alloc | apply Kd.R_drewN | apply Kd.R_drew)); exact Kd.R_mono (Kd.R_far (p := ⟨gb375, 1, none⟩) (Kd.R_far (p := ⟨gb375, 0, none⟩) (Kd.R_mono HL373_0.out (fun k_ hk => (⟨hk, hk.2⟩ : _ ∧ k_ ≠ gb375))) (fun _ hk => hk.2) (.int .i64 ((rd_T71 (rd_L7 x7_3 x8_1) x53_2).f0))) (fun _ hk => hk.2) (.int .i64 ((rd_T71 (rd_L7 x7_3 x8_1) x53_2).f1))) (fun _ hk => ⟨hk.1.1.2, ⟨hk.1.1.1, hk.1.2⟩⟩)⟩
                                have n3_ : Aside0 (((w76.setCell ⟨gb375, 0, none⟩ (.int .i64 ((rd_T71 (rd_L7 x7_3 x8_1) x53_2).f0))).setCell ⟨gb375, 1, none⟩ (.int .i64 ((rd_T71 (rd_L7 x7_3 x8_1) x53_2).f1))).heap[gb372]? = some (.cells #[.int .i64 ((rd_T71 (rd_L7 x7_3 (ji37)) (ji40)).f0), .int .i64 ((rd_T71 (rd_L7 x7_3 (ji37)) (ji40)).f1)] 71 (0, 0))) := ⟨by (with_reducible repeat (first | refine blk_drewN ?_ _ | refine blk_drew ?_ | refine blk_alloc ?_ _)); refine blk_far ?_ NB372_375.out _; (with_reducible repeat (first | refine blk_drewN ?_ _ | refine blk_drew ?_ | refine blk_alloc ?_ _)); refine blk_far ?_ NB372_375.out _; (with_reducible repeat (first | refine blk_drewN ?_ _ | refine blk_drew ?_ | refine blk_alloc ?_ _)); exact BK372.out⟩
                                have n4_ : Aside0 (((w76.setCell ⟨gb375, 0, none⟩ (.int .i64 ((rd_T71 (rd_L7 x7_3 x8_1) x53_2).f0))).setCell ⟨gb375, 1, none⟩ (.int .i64 ((rd_T71 (rd_L7 x7_3 x8_1) x53_2).f1))).heap[gb375]? = some (.cells #[.int .i64 ((rd_T71 (rd_L7 x7_3 x8_1) x53_2).f0), .int .i64 ((rd_T71 (rd_L7 x7_3 x8_1) x53_2).f1)] 71 (0, 0))) := ⟨by (with_reducible repeat (first | refine blk_drewN ?_ _ | refine blk_drew ?_ | refine blk_alloc ?_ _)); refine blk_put (cs := #[.int .i64 ((rd_T71 (rd_L7 x7_3 x8_1) x53_2).f0), .int .i64 0]) ?_ 1 _ rfl; (with_reducible repeat (first | refine blk_drewN ?_ _ | refine blk_drew ?_ | refine blk_alloc ?_ _)); refine blk_put (cs := #[.int .i64 0, .int .i64 0]) ?_ 0 _ rfl; (with_reducible repeat (first | refine blk_drewN ?_ _ | refine blk_drew ?_ | refine blk_alloc ?_ _)); exact BK375.out⟩
                                have n5_ : Aside0 (Below w.heap.size w ((w76.setCell ⟨gb375, 0, none⟩ (.int .i64 ((rd_T71 (rd_L7 x7_3 x8_1) x53_2).f0))).setCell ⟨gb375, 1, none⟩ (.int .i64 ((rd_T71 (rd_L7 x7_3 x8_1) x53_2).f1)))) := ⟨by repeat (first | (with_reducible first | exact HB.out | apply below_alloc | apply pw_below_drewN | apply below_drew1 | refine below_set ?_ GE372.out | refine below_set ?_ GE375.out) | exact HB.out)⟩
                                (try clear HO_7)
                                (try clear HL370_0)
                                (try clear HL373_0)
                                (try clear BK372)
                                (try clear BK375)
                                (try clear HB)
                                generalize ((w76.setCell ⟨gb375, 0, none⟩ (.int .i64 ((rd_T71 (rd_L7 x7_3 x8_1) x53_2).f0))).setCell ⟨gb375, 1, none⟩ (.int .i64 ((rd_T71 (rd_L7 x7_3 x8_1) x53_2).f1))) = w80 at n0_ n1_ n2_ n3_ n4_ n5_ ⊢
                                have HO_7 := n0_
                                have HL370_0 := n1_
                                have HL373_0 := n2_
                                have BK372 := n3_
                                have BK375 := n4_
                                have HB := n5_
                                clear n0_ n1_ n2_ n3_ n4_ n5_
                                have n0_ := Aside0.mk (Kd.S_drew HO_7.out)
                                have n1_ := Aside0.mk (Kd.R_drew HL370_0.out)
                                have n2_ := Aside0.mk (Kd.R_drew HL373_0.out)
                                have n3_ := Aside0.mk (blk_drew BK372.out)
                                have n4_ := Aside0.mk (blk_drew BK375.out)
                                have n5_ := Aside0.mk (below_drew1 HB.out)
                                clear HO_7
                                clear HL370_0
                                clear HL373_0
                                clear BK372
                                clear BK375
                                clear HB
                                have HO_7 := n0_
                                have HL370_0 := n1_
                                have HL373_0 := n2_
                                have BK372 := n3_
                                have BK375 := n4_
                                have HB := n5_
                                clear n0_ n1_ n2_ n3_ n4_ n5_
                                have p385 : 0 ≤ (x8_1 : Int) := of_decide_eq_true (by first | (with_reducible assumption) | assumption)
                                have q385 : x8_1 < (x7_3.length : Int) := of_decide_eq_true (by first | (with_reducible assumption) | assumption)
                                obtain ⟨ad385, A385_0, c385_0, e385, hx385_0, hl385_0, hi385_0⟩ := at_L7 (Kd.S_reads' HO_7.out).2.2 x8_1 p385 q385
                                obtain rfl : (⟨go15, 0, none⟩ : Addr) = ad385 := (by injection e385)
                                obtain ⟨ce385, hce385, hMe385, hcc385⟩ := Kd.S_get HO_7.out [] x8_1 p385 (by first | exact q385 | exact of_decide_eq_true (by first | (with_reducible assumption) | assumption) | (have e_ := (Kd.S_reads' HO_7.out).1; omega))
                                obtain ⟨ve385_0, rfl, ge385_0⟩ := hMe385
                                have hv385_0 := hcc385 0 _ rfl
                                rw [Nat.add_zero, show ((Kd.slice 71 k71)).sz = 1 from rfl, Nat.mul_one] at hv385_0
                                replace hv385_0 := Option.some.inj (hv385_0.symm.trans hx385_0)
                                rw [hv385_0] at ge385_0
                                have HL385_0 := Aside0.mk (show Kd.R k71 71 _ _ _ _ (rd_L7 x7_3 x8_1) from ge385_0)
                                clear hv385_0 ge385_0
                                have HX385_0 := Aside0.mk hx385_0
                                clear hcc385 hce385
                                (first | simp only [add_plain] at hx385_0 | simp only [add_at] at hx385_0 | simp only [Addr.add, Nat.zero_add] at hx385_0 | skip)
                                have HR385_0 := Aside0.mk hi385_0
                                have HC385_0 := Aside0.mk hl385_0
                                clear hi385_0 hl385_0
                                replace p385 := eq_true p385
                                replace q385 := eq_true q385
                                have p69 : 0 ≤ (x53_2 : Int) := of_decide_eq_true (by first | (with_reducible assumption) | assumption)
                                have q69 : (x53_2 : Int) < (((rd_L7 x7_3 x8_1).length : Int) : Int) := of_decide_eq_true (by first | (with_reducible assumption) | assumption)
                                obtain ⟨go69, co69, eo69, gb69, gl69, cl69, HG69⟩ := Kd.R_form HL385_0.out (by omega)
                                (first | cases eo69 | (injection eo69 with ea_ en_ ec_; (first | subst ea_ | (injection ea_ with ea_; subst ea_)); subst ec_; clear en_))
                                have GB69 := Aside0.mk gb69
                                have GG69 := Aside0.mk HG69
                                clear gb69 gl69 HG69
                                obtain ⟨ce69, hcl69, hM69, hcc69, hfr69⟩ := Kd.R_elem HL385_0.out z71 (x53_2 : Int) p69 q69
                                obtain rfl := k71_openM hM69
                                have hx69_0 : World.cell? _ ⟨go69, (x53_2 : Int).toNat * 2, none⟩ = some (.int .i64 ((rd_T71 (rd_L7 x7_3 x8_1) x53_2).f0)) := hcc69 0 _ rfl
                                have hx69_1 : World.cell? _ ⟨go69, (x53_2 : Int).toNat * 2 + 1, none⟩ = some (.int .i64 ((rd_T71 (rd_L7 x7_3 x8_1) x53_2).f1)) := hcc69 1 _ rfl
                                have hf69_0 : World.frozen? _ ⟨go69, (x53_2 : Int).toNat * 2, none⟩ = false := hfr69 0
                                have hf69_1 : World.frozen? _ ⟨go69, (x53_2 : Int).toNat * 2 + 1, none⟩ = false := hfr69 1
                                clear hcl69 hcc69 hfr69; (try clear hM69)
                                replace p69 := eq_true p69
                                replace q69 := eq_true q69
                                have hq82 : (x8_1 : Int) < (x7_3.length : Int) := (by have h_ : (x8_1 : Int) < ((x7_3.length : Int) : Int) := of_decide_eq_true (by first | (with_reducible assumption) | assumption); first | exact h_ | (have e_ := (Kd.S_reads' HO_7.out).1; omega) | simpa only [List.length_set, List.length_set] using h_)
                                obtain ⟨oki82, ce82, hcl82, hM82, hcc82, hok82, hbk82⟩ := Kd.S_borrow HO_7.out [] (x8_1 : Int) (of_decide_eq_true (by first | (with_reducible assumption) | assumption)) (by first | exact hq82 | (have e_ := (Kd.S_reads' HO_7.out).1; omega))
                                obtain ⟨ve82_0, rfl, ge82_0⟩ := hM82
                                have hv82 := hcc82 0 _ rfl
                                rw [Nat.add_zero, show ((Kd.slice 71 k71)).sz = 1 from rfl, Nat.mul_one] at hv82
                                replace hv82 := Option.some.inj (hv82.symm.trans HX385_0.out)
                                subst hv82
                                clear hcc82 hcl82
                                replace ge82_0 := (show Kd.R k71 71 _ _ _ _ (rd_L7 x7_3 x8_1) from ge82_0)
                                obtain ⟨cf82, hcl82, hN82, hcc82, hfr82⟩ := Kd.R_elem ge82_0 z71 (x53_2 : Int) (of_decide_eq_true (by first | (with_reducible assumption) | assumption)) (by have h_ : (x53_2 : Int) < (((rd_L7 x7_3 x8_1).length : Int) : Int) := of_decide_eq_true (by first | (with_reducible assumption) | assumption); first | exact h_ | (have e_ := (Kd.R_reads' HR385_0.out).1; omega) | simpa using h_)
                                obtain rfl := k71_openM hN82
                                have HP82 := Kd.R_seg ge82_0 (x53_2 : Int) (of_decide_eq_true (by first | (with_reducible assumption) | assumption)) (by have h_ : (x53_2 : Int) < (((rd_L7 x7_3 x8_1).length : Int) : Int) := of_decide_eq_true (by first | (with_reducible assumption) | assumption); first | exact h_ | (have e_ := (Kd.R_reads' HR385_0.out).1; omega) | simpa using h_) (seg := [.int .i64 (wrap64 (((rd_T71 (rd_L7 x7_3 (ji37)) (ji40)).f1) + x11_3))]) (j := 1) hcl82 hcc82 (show 2 ≤ 2 from by decide) (x' := (⟨(rd_T71 (rd_L7 x7_3 x8_1) x53_2).f0, wrap64 (((rd_T71 (rd_L7 x7_3 (ji37)) (ji40)).f1) + x11_3)⟩ : S71)) (k71_mkM _ _ _ (⟨(rd_T71 (rd_L7 x7_3 x8_1) x53_2).f0, wrap64 (((rd_T71 (rd_L7 x7_3 (ji37)) (ji40)).f1) + x11_3)⟩ : S71)) (fun _ hk => hk)
                                clear hcl82 hcc82 hfr82; (try clear hN82)
                                rw [← Ny386.out] at HP82
                                have HS82 := hbk82 HP82.2 (fun k_ e_ => by injection e_ with e_; subst e_; exact ge82_0.1 _ rfl) (x' := y386) (Kd.M_row HP82.1)
                                rw [← Ny388.out] at HS82
                                have HQ82 := Aside0.mk HS82
                                clear HP82 HS82 hbk82 hok82
                                refine start_ (n := 12) (S := fun w' => w'.cell? ⟨gb372, 0, none⟩ = some (.int .i64 ((rd_T71 (rd_L7 x7_3 (ji37)) (ji40)).f0)) ∧ w'.cell? ⟨gb372, 1, none⟩ = some (.int .i64 ((rd_T71 (rd_L7 x7_3 (ji37)) (ji40)).f1)) ∧ w'.cell? ⟨go15, (x8_1).toNat, none⟩ = some (.slice (some ⟨go69, 0, none⟩) (rd_L7 x7_3 x8_1).length c385_0)) (ds := [11]) #[false, false, false, false, false, false, false, false, false, false, false, false] (by kernel_rfl) rfl rfl ⟨(blk_cell BK372.out 0).trans rfl, (blk_cell BK372.out 1).trans rfl, hx385_0⟩ (fun hHeld => ?_); refine with_tabW impl_fillings.tab19 impl_fillings.bits19 (fun HT_ HW_ => ?_)
                                generalize w80.drew = w81 at HO_7 HL370_0 HL373_0 BK372 BK375 HB GG69 HL385_0 HQ82 HR385_0 HX385_0 hf69_0 hf69_1 hx385_0 hx69_0 hx69_1 hHeld ⊢
                                refine pure_ (i := 0) (N := some 107) (v := ?_) (a' := ?_) #[true, false, false, false, false, false, false, false, false, false, false, false] rfl rfl (any_of HT_.out (by kernel_rfl)) (fun _ _ _ h => h) (Or.inl ⟨by rfl, ?_⟩) ?_ ?_
                                rotate_left
                                ·
                                 intro w'
                                 go_simp
                                 with_reducible rfl
                                rotate_left
                                ·
                                 simp only [Act.put, List.setIfInBounds_toArray, List.set_cons_zero, List.set_cons_succ, i64_w, i32_w]
                                 rfl
                                refine pure_ (i := 1) (N := some 108) (v := ?_) (a' := ?_) #[true, true, false, false, false, false, false, false, false, false, false, false] rfl rfl (any_of HT_.out (by kernel_rfl)) (fun _ _ _ h => h) (Or.inl ⟨by rfl, ?_⟩) ?_ ?_
                                rotate_left
                                ·
                                 intro w'
                                 go_simp
                                 with_reducible rfl
                                rotate_left
                                ·
                                 simp only [Act.put, List.setIfInBounds_toArray, List.set_cons_zero, List.set_cons_succ, i64_w, i32_w]
                                 rfl
                                refine pure_ (i := 2) (N := some 109) (v := ?_) (a' := ?_) #[true, true, true, false, false, false, false, false, false, false, false, false] rfl rfl (any_of HT_.out (by kernel_rfl)) (fun _ _ _ h => h) (Or.inl ⟨by rfl, ?_⟩) ?_ ?_
                                rotate_left
                                ·
                                 intro w'
                                 go_simp
                                 with_reducible rfl
                                rotate_left
                                ·
                                 simp only [Act.put, List.setIfInBounds_toArray, List.set_cons_zero, List.set_cons_succ, i64_w, i32_w]
                                 rfl
                                refine pure_ (i := 4) (N := some 111) (v := ?_) (a' := ?_) #[true, true, true, false, true, false, false, false, false, false, false, false] rfl rfl (any_of HT_.out (by kernel_rfl)) (fun _ _ _ h => h) (Or.inl ⟨by rfl, ?_⟩) ?_ ?_
                                rotate_left
                                ·
                                 intro w'
                                 go_simp
                                 with_reducible rfl
                                rotate_left
                                ·
                                 simp only [Act.put, List.setIfInBounds_toArray, List.set_cons_zero, List.set_cons_succ, i64_w, i32_w]
                                 rfl
                                refine pure_ (i := 5) (N := some 112) (v := ?_) (a' := ?_) #[true, true, true, false, true, true, false, false, false, false, false, false] rfl rfl (any_of HT_.out (by kernel_rfl)) (fun _ _ _ h => h) (Or.inl ⟨by rfl, ?_⟩) ?_ ?_
                                rotate_left
                                ·
                                 intro w'
                                 go_simp
                                 with_reducible rfl
                                rotate_left
                                ·
                                 simp only [Act.put, List.setIfInBounds_toArray, List.set_cons_zero, List.set_cons_succ, i64_w, i32_w]
                                 rfl
                                refine pure_ (i := 7) (N := some 114) (v := ?_) (a' := ?_) #[true, true, true, false, true, true, false, true, false, false, false, false] rfl rfl (any_of HT_.out (by kernel_rfl)) (fun _ _ _ h => h) (Or.inl ⟨by rfl, ?_⟩) ?_ ?_
                                rotate_left
                                ·
                                 intro w'
                                 go_simp
                                 with_reducible rfl
                                rotate_left
                                ·
                                 simp only [Act.put, List.setIfInBounds_toArray, List.set_cons_zero, List.set_cons_succ, i64_w, i32_w]
                                 rfl
                                refine take_ (i := 3) (N := some 110) (v := ?_) (a' := ?_) #[true, true, true, true, true, true, false, true, false, false, false, false] rfl rfl (take_ofW HT_.out HW_.out (by kernel_rfl)) (fun _ _ _ h => h) (Or.inl ⟨by rfl, ?_⟩) hHeld ?_ ?_
                                rotate_left
                                ·
                                 rintro w' ⟨s0, s1, s2⟩
                                 go_simp
                                 with_reducible rfl
                                rotate_left
                                ·
                                 simp only [Act.put, List.setIfInBounds_toArray, List.set_cons_zero, List.set_cons_succ, i64_w, i32_w]
                                 rfl
                                refine take_ (i := 6) (N := some 113) (v := ?_) (a' := ?_) #[true, true, true, true, true, true, true, true, false, false, false, false] rfl rfl (take_ofW HT_.out HW_.out (by kernel_rfl)) (fun _ _ _ h => h) (Or.inl ⟨by rfl, ?_⟩) hHeld ?_ ?_
                                rotate_left
                                ·
                                 rintro w' ⟨s0, s1, s2⟩
                                 go_simp
                                 with_reducible rfl
                                rotate_left
                                ·
                                 simp only [Act.put, List.setIfInBounds_toArray, List.set_cons_zero, List.set_cons_succ, i64_w, i32_w]
                                 rfl
                                refine pure_ (i := 8) (N := some 115) (v := ?_) (a' := ?_) #[true, true, true, true, true, true, true, true, true, false, false, false] rfl rfl (any_of HT_.out (by kernel_rfl)) (fun _ _ _ h => h) (Or.inl ⟨by rfl, ?_⟩) ?_ ?_
                                rotate_left
                                ·
                                 intro w'
                                 go_simp
                                 with_reducible rfl
                                rotate_left
                                ·
                                 simp only [Act.put, List.setIfInBounds_toArray, List.set_cons_zero, List.set_cons_succ, i64_w, i32_w]
                                 rfl
                                refine pure_ (i := 9) (N := some 116) (v := ?_) (a' := ?_) #[true, true, true, true, true, true, true, true, true, true, false, false] rfl rfl (any_of HT_.out (by kernel_rfl)) (fun _ _ _ h => h) (Or.inl ⟨by rfl, ?_⟩) ?_ ?_
                                rotate_left
                                ·
                                 intro w'
                                 go_simp
                                 with_reducible rfl
                                rotate_left
                                ·
                                 simp only [Act.put, List.setIfInBounds_toArray, List.set_cons_zero, List.set_cons_succ, i64_w, i32_w]
                                 rfl
                                refine pure_ (i := 10) (N := some 117) (v := ?_) (a' := ?_) #[true, true, true, true, true, true, true, true, true, true, true, false] rfl rfl (any_of HT_.out (by kernel_rfl)) (fun _ _ _ h => h) (Or.inl ⟨by rfl, ?_⟩) ?_ ?_
                                rotate_left
                                ·
                                 intro w'
                                 go_simp
                                 with_reducible rfl
                                rotate_left
                                ·
                                 simp only [Act.put, List.setIfInBounds_toArray, List.set_cons_zero, List.set_cons_succ, i64_w, i32_w]
                                 rfl
                                refine last_ (i := 11) (N := none) #[true, true, true, true, true, true, true, true, true, true, true, true] rfl rfl (one_of HT_.out (by kernel_rfl)) (by decide) (fun K hK => ?_)
                                refine skip_ (w1 := ?_) (by rfl) rfl ?_ ?_
                                rotate_left
                                ·
                                 go_simp
                                 rfl
                                refine hK.out _ _ ?_
                                clear hK K
                                refine done_ (done_of HT_.out (by kernel_rfl)) ?_
                                try go_wp2
                                have n0_ : Aside0 (Kd.S (Kd.slice 71 k71) 72 (w81.setCell ⟨go69, (x53_2 : Int).toNat * 2 + 1, none⟩ (.int .i64 (wrap64 (((rd_T71 (rd_L7 x7_3 (ji37)) (ji40)).f1) + x11_3)))) w.heap.size (fun k_ => k_ ≠ gb372 ∧ k_ ≠ gb375) (.slice (some ⟨go15, 0, none⟩) x7_3.length co15) y388) := ⟨by (with_reducible repeat (first | apply Kd.S_alloc | apply Kd.S_drewN | apply Kd.S_drew)); exact HQ82.out⟩
                                have n1_ : Aside0 ((w81.setCell ⟨go69, (x53_2 : Int).toNat * 2 + 1, none⟩ (.int .i64 (wrap64 (((rd_T71 (rd_L7 x7_3 (ji37)) (ji40)).f1) + x11_3)))).heap[gb372]? = some (.cells #[.int .i64 ((rd_T71 (rd_L7 x7_3 (ji37)) (ji40)).f0), .int .i64 ((rd_T71 (rd_L7 x7_3 (ji37)) (ji40)).f1)] 71 (0, 0))) := ⟨by (with_reducible repeat (first | refine blk_drewN ?_ _ | refine blk_drew ?_ | refine blk_alloc ?_ _)); refine blk_far ?_ (by have h_ := Kd.R_away HL385_0.out (fun _ hk => hk.1.1); intro e_; exact h_ (by rw [e_]; rfl)) _; (with_reducible repeat (first | refine blk_drewN ?_ _ | refine blk_drew ?_ | refine blk_alloc ?_ _)); exact BK372.out⟩
                                have n2_ : Aside0 ((w81.setCell ⟨go69, (x53_2 : Int).toNat * 2 + 1, none⟩ (.int .i64 (wrap64 (((rd_T71 (rd_L7 x7_3 (ji37)) (ji40)).f1) + x11_3)))).heap[gb375]? = some (.cells #[.int .i64 ((rd_T71 (rd_L7 x7_3 x8_1) x53_2).f0), .int .i64 ((rd_T71 (rd_L7 x7_3 x8_1) x53_2).f1)] 71 (0, 0))) := ⟨by (with_reducible repeat (first | refine blk_drewN ?_ _ | refine blk_drew ?_ | refine blk_alloc ?_ _)); refine blk_far ?_ (by have h_ := Kd.R_away HL385_0.out (fun _ hk => hk.1.2); intro e_; exact h_ (by rw [e_]; rfl)) _; (with_reducible repeat (first | refine blk_drewN ?_ _ | refine blk_drew ?_ | refine blk_alloc ?_ _)); exact BK375.out⟩
                                have n3_ : Aside0 (Below w.heap.size w (w81.setCell ⟨go69, (x53_2 : Int).toNat * 2 + 1, none⟩ (.int .i64 (wrap64 (((rd_T71 (rd_L7 x7_3 (ji37)) (ji40)).f1) + x11_3))))) := ⟨by repeat (first | (with_reducible first | exact HB.out | apply below_alloc | apply pw_below_drewN | apply below_drew1 | refine below_set ?_ GB69.out | refine below_set ?_ GE372.out | refine below_set ?_ GE375.out) | exact HB.out)⟩
                                (try clear HO_7)
                                (try clear BK372)
                                (try clear BK375)
                                (try clear HB)
                                generalize (w81.setCell ⟨go69, (x53_2 : Int).toNat * 2 + 1, none⟩ (.int .i64 (wrap64 (((rd_T71 (rd_L7 x7_3 (ji37)) (ji40)).f1) + x11_3)))) = w84 at n0_ n1_ n2_ n3_ ⊢
                                have HO_7 := n0_
                                have BK372 := n1_
                                have BK375 := n2_
                                have HB := n3_
                                clear n0_ n1_ n2_ n3_
                                have n0_ := Aside0.mk (Kd.S_drew HO_7.out)
                                have n1_ := Aside0.mk (blk_drew BK372.out)
                                have n2_ := Aside0.mk (blk_drew BK375.out)
                                have n3_ := Aside0.mk (below_drew1 HB.out)
                                clear HO_7
                                clear BK372
                                clear BK375
                                clear HB
                                have HO_7 := n0_
                                have BK372 := n1_
                                have BK375 := n2_
                                have HB := n3_
                                clear n0_ n1_ n2_ n3_
                                have p389 : 0 ≤ (x8_1 : Int) := of_decide_eq_true (by first | (with_reducible assumption) | assumption)
                                have q389 : x8_1 < (y388.length : Int) := (by have h_ : (x8_1 : Int) < ((x7_3.length : Int) : Int) := of_decide_eq_true (by first | (with_reducible assumption) | assumption); first | (have e_ := (Kd.S_reads' HO_7.out).1; omega) | simpa only [Ny388.out, List.length_set] using h_)
                                have ql389 : ((x8_1 : Int) < ((x7_3.length : Int) : Int)) = True := eq_true (of_decide_eq_true (by first | (with_reducible assumption) | assumption))
                                obtain ⟨ad389, A389_0, c389_0, e389, hx389_0, hl389_0, hi389_0⟩ := at_L7 (Kd.S_reads' HO_7.out).2.2 x8_1 p389 q389
                                obtain rfl : (⟨go15, 0, none⟩ : Addr) = ad389 := (by injection e389)
                                obtain ⟨ce389, hce389, hMe389, hcc389⟩ := Kd.S_get HO_7.out [] x8_1 p389 (by first | exact q389 | exact of_decide_eq_true (by first | (with_reducible assumption) | assumption) | (have e_ := (Kd.S_reads' HO_7.out).1; omega))
                                obtain ⟨ve389_0, rfl, ge389_0⟩ := hMe389
                                have hv389_0 := hcc389 0 _ rfl
                                rw [Nat.add_zero, show ((Kd.slice 71 k71)).sz = 1 from rfl, Nat.mul_one] at hv389_0
                                replace hv389_0 := Option.some.inj (hv389_0.symm.trans hx389_0)
                                rw [hv389_0] at ge389_0
                                have HL389_0 := Aside0.mk (show Kd.R k71 71 _ _ _ _ (rd_L7 y388 x8_1) from ge389_0)
                                clear hv389_0 ge389_0
                                have HX389_0 := Aside0.mk hx389_0
                                clear hcc389 hce389
                                (first | simp only [add_plain] at hx389_0 | simp only [add_at] at hx389_0 | simp only [Addr.add, Nat.zero_add] at hx389_0 | skip)
                                have HR389_0 := Aside0.mk hi389_0
                                have HC389_0 := Aside0.mk hl389_0
                                clear hi389_0 hl389_0
                                replace p389 := eq_true p389
                                replace q389 := eq_true q389
                                have p390 : 0 ≤ (x53_2 : Int) := of_decide_eq_true (by first | (with_reducible assumption) | assumption)
                                have q390 : x53_2 < ((rd_L7 y388 x8_1).length : Int) := of_decide_eq_true (by first | (with_reducible assumption) | assumption)
                                obtain ⟨ad390, e390, hx390_0, hx390_1⟩ := at_T71 (by repeat (first | (with_reducible exact HR389_0.out) | (with_reducible refine Kd.C_alloc ?_ _) | (with_reducible refine Kd.C_drewN ?_ _) | (with_reducible refine Kd.C_drew ?_) | exact HR389_0.out)) x53_2 p390 q390
                                cases e390
                                replace p390 := eq_true p390
                                replace q390 := eq_true q390
                                have p71 : 0 ≤ (x53_2 : Int) := of_decide_eq_true (by first | (with_reducible assumption) | assumption)
                                have q71 : (x53_2 : Int) < (((rd_L7 y388 x8_1).length : Int) : Int) := of_decide_eq_true (by first | (with_reducible assumption) | assumption)
                                obtain ⟨go71, co71, eo71, gb71, gl71, cl71, HG71⟩ := Kd.R_form HL389_0.out (by omega)
                                (first | cases eo71 | (injection eo71 with ea_ en_ ec_; (first | subst ea_ | (injection ea_ with ea_; subst ea_)); subst ec_; clear en_))
                                have GB71 := Aside0.mk gb71
                                have GG71 := Aside0.mk HG71
                                clear gb71 gl71 HG71
                                (first | simp only [add_plain] at hx390_0 | skip)
                                (first | simp only [add_plain] at hx390_1 | skip)
                                obtain ⟨ce71, hcl71, hM71, hcc71, hfr71⟩ := Kd.R_elem HL389_0.out z71 (x53_2 : Int) p71 q71
                                obtain rfl := k71_openM hM71
                                have hx71_0 : World.cell? _ ⟨go71, (x53_2 : Int).toNat * 2, none⟩ = some (.int .i64 ((rd_T71 (rd_L7 y388 x8_1) x53_2).f0)) := hcc71 0 _ rfl
                                have hx71_1 : World.cell? _ ⟨go71, (x53_2 : Int).toNat * 2 + 1, none⟩ = some (.int .i64 ((rd_T71 (rd_L7 y388 x8_1) x53_2).f1)) := hcc71 1 _ rfl
                                have hf71_0 : World.frozen? _ ⟨go71, (x53_2 : Int).toNat * 2, none⟩ = false := hfr71 0
                                have hf71_1 : World.frozen? _ ⟨go71, (x53_2 : Int).toNat * 2 + 1, none⟩ = false := hfr71 1
                                clear hcl71 hcc71 hfr71; (try clear hM71)
                                replace p71 := eq_true p71
                                replace q71 := eq_true q71
                                have hq86 : (x8_1 : Int) < (y388.length : Int) := (by have h_ : (x8_1 : Int) < ((x7_3.length : Int) : Int) := of_decide_eq_true (by first | (with_reducible assumption) | assumption); first | exact h_ | (have e_ := (Kd.S_reads' HO_7.out).1; omega) | simpa only [Ny388.out, List.length_set] using h_)
                                obtain ⟨oki86, ce86, hcl86, hM86, hcc86, hok86, hbk86⟩ := Kd.S_borrow HO_7.out [] (x8_1 : Int) (of_decide_eq_true (by first | (with_reducible assumption) | assumption)) (by first | exact hq86 | (have e_ := (Kd.S_reads' HO_7.out).1; omega))
                                obtain ⟨ve86_0, rfl, ge86_0⟩ := hM86
                                have hv86 := hcc86 0 _ rfl
                                rw [Nat.add_zero, show ((Kd.slice 71 k71)).sz = 1 from rfl, Nat.mul_one] at hv86
                                replace hv86 := Option.some.inj (hv86.symm.trans HX389_0.out)
                                subst hv86
                                clear hcc86 hcl86
                                replace ge86_0 := (show Kd.R k71 71 _ _ _ _ (rd_L7 y388 x8_1) from ge86_0)
                                obtain ⟨cf86, hcl86, hN86, hcc86, hfr86⟩ := Kd.R_elem ge86_0 z71 (x53_2 : Int) (of_decide_eq_true (by first | (with_reducible assumption) | assumption)) (by have h_ : (x53_2 : Int) < (((rd_L7 y388 x8_1).length : Int) : Int) := of_decide_eq_true (by first | (with_reducible assumption) | assumption); first | exact h_ | (have e_ := (Kd.R_reads' HR389_0.out).1; omega) | simpa using h_)
                                obtain rfl := k71_openM hN86
                                have HP86 := Kd.R_seg ge86_0 (x53_2 : Int) (of_decide_eq_true (by first | (with_reducible assumption) | assumption)) (by have h_ : (x53_2 : Int) < (((rd_L7 y388 x8_1).length : Int) : Int) := of_decide_eq_true (by first | (with_reducible assumption) | assumption); first | exact h_ | (have e_ := (Kd.R_reads' HR389_0.out).1; omega) | simpa using h_) (seg := [.int .i64 (wrap64 (((rd_T71 (rd_L7 y388 x8_1) x53_2).f0) + ((rd_T71 (rd_L7 x7_3 (ji37)) (ji40)).f0)))]) (j := 0) hcl86 hcc86 (show 1 ≤ 2 from by decide) (x' := (⟨wrap64 (((rd_T71 (rd_L7 y388 x8_1) x53_2).f0) + ((rd_T71 (rd_L7 x7_3 (ji37)) (ji40)).f0)), (rd_T71 (rd_L7 y388 x8_1) x53_2).f1⟩ : S71)) (k71_mkM _ _ _ (⟨wrap64 (((rd_T71 (rd_L7 y388 x8_1) x53_2).f0) + ((rd_T71 (rd_L7 x7_3 (ji37)) (ji40)).f0)), (rd_T71 (rd_L7 y388 x8_1) x53_2).f1⟩ : S71)) (fun _ hk => hk)
                                clear hcl86 hcc86 hfr86; (try clear hN86)
                                rw [← Ny391.out] at HP86
                                have HS86 := hbk86 HP86.2 (fun k_ e_ => by injection e_ with e_; subst e_; exact ge86_0.1 _ rfl) (x' := y391) (Kd.M_row HP86.1)
                                rw [← Ny393.out] at HS86
                                have HQ86 := Aside0.mk HS86
                                clear HP86 HS86 hbk86 hok86
                                refine start_ (n := 14) (S := fun w' => w'.cell? ⟨gb372, 0, none⟩ = some (.int .i64 ((rd_T71 (rd_L7 x7_3 (ji37)) (ji40)).f0)) ∧ w'.cell? ⟨gb372, 1, none⟩ = some (.int .i64 ((rd_T71 (rd_L7 x7_3 (ji37)) (ji40)).f1)) ∧ w'.cell? ⟨go15, (x8_1).toNat, none⟩ = some (.slice (some ⟨go71, 0, none⟩) (rd_L7 y388 x8_1).length c389_0) ∧ w'.cell? ⟨go71, ((x53_2).toNat * 2), none⟩ = some (.int .i64 ((rd_T71 (rd_L7 y388 x8_1) x53_2).f0)) ∧ w'.cell? ⟨go71, ((x53_2).toNat * 2) + 1, none⟩ = some (.int .i64 ((rd_T71 (rd_L7 y388 x8_1) x53_2).f1))) (ds := [13]) #[false, false, false, false, false, false, false, false, false, false, false, false, false, false] (by kernel_rfl) rfl rfl ⟨(blk_cell BK372.out 0).trans rfl, (blk_cell BK372.out 1).trans rfl, hx389_0, hx390_0, hx390_1⟩ (fun hHeld => ?_); refine with_tabW impl_fillings.tab20 impl_fillings.bits20 (fun HT_ HW_ => ?_)
                                generalize w84.drew = w85 at HO_7 BK372 BK375 HB GG71 HL389_0 HQ82 HQ86 HR389_0 HX389_0 hf71_0 hf71_1 hx389_0 hx390_0 hx390_1 hx71_0 hx71_1 hHeld ⊢
                                refine pure_ (i := 0) (N := some 118) (v := ?_) (a' := ?_) #[true, false, false, false, false, false, false, false, false, false, false, false, false, false] rfl rfl (any_of HT_.out (by kernel_rfl)) (fun _ _ _ h => h) (Or.inl ⟨by rfl, ?_⟩) ?_ ?_
                                rotate_left
                                ·
                                 intro w'
                                 go_simp
                                 with_reducible rfl
                                rotate_left
                                ·
                                 simp only [Act.put, List.setIfInBounds_toArray, List.set_cons_zero, List.set_cons_succ, i64_w, i32_w]
                                 rfl
                                refine pure_ (i := 1) (N := some 119) (v := ?_) (a' := ?_) #[true, true, false, false, false, false, false, false, false, false, false, false, false, false] rfl rfl (any_of HT_.out (by kernel_rfl)) (fun _ _ _ h => h) (Or.inl ⟨by rfl, ?_⟩) ?_ ?_
                                rotate_left
                                ·
                                 intro w'
                                 go_simp
                                 with_reducible rfl
                                rotate_left
                                ·
                                 simp only [Act.put, List.setIfInBounds_toArray, List.set_cons_zero, List.set_cons_succ, i64_w, i32_w]
                                 rfl
                                refine pure_ (i := 2) (N := some 120) (v := ?_) (a' := ?_) #[true, true, true, false, false, false, false, false, false, false, false, false, false, false] rfl rfl (any_of HT_.out (by kernel_rfl)) (fun _ _ _ h => h) (Or.inl ⟨by rfl, ?_⟩) ?_ ?_
                                rotate_left
                                ·
                                 intro w'
                                 go_simp
                                 with_reducible rfl
                                rotate_left
                                ·
                                 simp only [Act.put, List.setIfInBounds_toArray, List.set_cons_zero, List.set_cons_succ, i64_w, i32_w]
                                 rfl
                                refine pure_ (i := 4) (N := some 122) (v := ?_) (a' := ?_) #[true, true, true, false, true, false, false, false, false, false, false, false, false, false] rfl rfl (any_of HT_.out (by kernel_rfl)) (fun _ _ _ h => h) (Or.inl ⟨by rfl, ?_⟩) ?_ ?_
                                rotate_left
                                ·
                                 intro w'
                                 go_simp
                                 with_reducible rfl
                                rotate_left
                                ·
                                 simp only [Act.put, List.setIfInBounds_toArray, List.set_cons_zero, List.set_cons_succ, i64_w, i32_w]
                                 rfl
                                refine pure_ (i := 8) (N := some 126) (v := ?_) (a' := ?_) #[true, true, true, false, true, false, false, false, true, false, false, false, false, false] rfl rfl (any_of HT_.out (by kernel_rfl)) (fun _ _ _ h => h) (Or.inl ⟨by rfl, ?_⟩) ?_ ?_
                                rotate_left
                                ·
                                 intro w'
                                 go_simp
                                 with_reducible rfl
                                rotate_left
                                ·
                                 simp only [Act.put, List.setIfInBounds_toArray, List.set_cons_zero, List.set_cons_succ, i64_w, i32_w]
                                 rfl
                                refine take_ (i := 3) (N := some 121) (v := ?_) (a' := ?_) #[true, true, true, true, true, false, false, false, true, false, false, false, false, false] rfl rfl (take_ofW HT_.out HW_.out (by kernel_rfl)) (fun _ _ _ h => h) (Or.inl ⟨by rfl, ?_⟩) hHeld ?_ ?_
                                rotate_left
                                ·
                                 rintro w' ⟨s0, s1, s2, s3, s4⟩
                                 go_simp
                                 with_reducible rfl
                                rotate_left
                                ·
                                 simp only [Act.put, List.setIfInBounds_toArray, List.set_cons_zero, List.set_cons_succ, i64_w, i32_w]
                                 rfl
                                refine pure_ (i := 5) (N := some 123) (v := ?_) (a' := ?_) #[true, true, true, true, true, true, false, false, true, false, false, false, false, false] rfl rfl (any_of HT_.out (by kernel_rfl)) (fun _ _ _ h => h) (Or.inl ⟨by rfl, ?_⟩) ?_ ?_
                                rotate_left
                                ·
                                 intro w'
                                 go_simp
                                 with_reducible rfl
                                rotate_left
                                ·
                                 simp only [Act.put, List.setIfInBounds_toArray, List.set_cons_zero, List.set_cons_succ, i64_w, i32_w]
                                 rfl
                                refine pure_ (i := 6) (N := some 124) (v := ?_) (a' := ?_) #[true, true, true, true, true, true, true, false, true, false, false, false, false, false] rfl rfl (any_of HT_.out (by kernel_rfl)) (fun _ _ _ h => h) (Or.inl ⟨by rfl, ?_⟩) ?_ ?_
                                rotate_left
                                ·
                                 intro w'
                                 go_simp
                                 with_reducible rfl
                                rotate_left
                                ·
                                 simp only [Act.put, List.setIfInBounds_toArray, List.set_cons_zero, List.set_cons_succ, i64_w, i32_w]
                                 rfl
                                refine take_ (i := 7) (N := some 125) (v := ?_) (a' := ?_) #[true, true, true, true, true, true, true, true, true, false, false, false, false, false] rfl rfl (take_ofW HT_.out HW_.out (by kernel_rfl)) (fun _ _ _ h => h) (Or.inl ⟨by rfl, ?_⟩) hHeld ?_ ?_
                                rotate_left
                                ·
                                 rintro w' ⟨s0, s1, s2, s3, s4⟩
                                 go_simp
                                 with_reducible rfl
                                rotate_left
                                ·
                                 simp only [Act.put, List.setIfInBounds_toArray, List.set_cons_zero, List.set_cons_succ, i64_w, i32_w]
                                 rfl
                                refine take_ (i := 9) (N := some 127) (v := ?_) (a' := ?_) #[true, true, true, true, true, true, true, true, true, true, false, false, false, false] rfl rfl (take_ofW HT_.out HW_.out (by kernel_rfl)) (fun _ _ _ h => h) (Or.inl ⟨by rfl, ?_⟩) hHeld ?_ ?_
                                rotate_left
                                ·
                                 rintro w' ⟨s0, s1, s2, s3, s4⟩
                                 go_simp
                                 with_reducible rfl
                                rotate_left
                                ·
                                 simp only [Act.put, List.setIfInBounds_toArray, List.set_cons_zero, List.set_cons_succ, i64_w, i32_w]
                                 rfl
                                refine pure_ (i := 10) (N := some 128) (v := ?_) (a' := ?_) #[true, true, true, true, true, true, true, true, true, true, true, false, false, false] rfl rfl (any_of HT_.out (by kernel_rfl)) (fun _ _ _ h => h) (Or.inl ⟨by rfl, ?_⟩) ?_ ?_
                                rotate_left
                                ·
                                 intro w'
                                 go_simp
                                 with_reducible rfl
                                rotate_left
                                ·
                                 simp only [Act.put, List.setIfInBounds_toArray, List.set_cons_zero, List.set_cons_succ, i64_w, i32_w]
                                 rfl
                                refine pure_ (i := 11) (N := some 129) (v := ?_) (a' := ?_) #[true, true, true, true, true, true, true, true, true, true, true, true, false, false] rfl rfl (any_of HT_.out (by kernel_rfl)) (fun _ _ _ h => h) (Or.inl ⟨by rfl, ?_⟩) ?_ ?_
                                rotate_left
                                ·
                                 intro w'
                                 go_simp
                                 with_reducible rfl
                                rotate_left
                                ·
                                 simp only [Act.put, List.setIfInBounds_toArray, List.set_cons_zero, List.set_cons_succ, i64_w, i32_w]
                                 rfl
                                refine pure_ (i := 12) (N := some 130) (v := ?_) (a' := ?_) #[true, true, true, true, true, true, true, true, true, true, true, true, true, false] rfl rfl (any_of HT_.out (by kernel_rfl)) (fun _ _ _ h => h) (Or.inl ⟨by rfl, ?_⟩) ?_ ?_
                                rotate_left
                                ·
                                 intro w'
                                 go_simp
                                 with_reducible rfl
                                rotate_left
                                ·
                                 simp only [Act.put, List.setIfInBounds_toArray, List.set_cons_zero, List.set_cons_succ, i64_w, i32_w]
                                 rfl
                                refine last_ (i := 13) (N := none) #[true, true, true, true, true, true, true, true, true, true, true, true, true, true] rfl rfl (one_of HT_.out (by kernel_rfl)) (by decide) (fun K hK => ?_)
                                refine skip_ (w1 := ?_) (by rfl) rfl ?_ ?_
                                rotate_left
                                ·
                                 go_simp
                                 rfl
                                refine hK.out _ _ ?_
                                clear hK K
                                refine done_ (done_of HT_.out (by kernel_rfl)) ?_
                                try go_wp2
                                (try simp only [← hl7_3])
                                go_roundg k3
                                case measure => have := HK1.out; have := HK2.out; have := HK3.out; omega
                                case rel => exact ⟨(y393), (wrap64 (x11_3 + 1)), (by first | rfl | (simp; done) | (simp [*]; done)), H', ⟨by have := HK1.out; have := HK2.out; have := HK3.out; omega⟩, ⟨by (try simp only [hl7_2]); (try simp only [hl7_3]); (with_reducible repeat (first | apply Kd.S_alloc | apply Kd.S_drewN | apply Kd.S_drew)); exact Kd.S_mono HQ86.out (fun _ hk => trivial)⟩, ⟨by repeat (first | (with_reducible first | exact HB.out | apply below_alloc | apply pw_below_drewN | apply below_drew1 | refine below_set ?_ GB71.out | refine below_set ?_ GE372.out | refine below_set ?_ GE375.out) | exact HB.out)⟩⟩
                               ·
                                rw [if_neg c70] at H
                                exact absurd H (by simp)
                              ·
                               rw [if_neg c68] at H
                               have c68b0 : decide ((wrap64 (((rd_T71 (rd_L7 x7_3 (ji37)) (ji40)).f1) + x11_3)) < ((rd_T71 (rd_L7 x7_3 x8_1) x53_2).f1)) = false := decide_eq_false c68
                               clear c68
                               obtain ⟨y396, hy396⟩ : ∃ y_ : List (S71), y_ = ((rd_L7 x7_3 x8_1).set (x53_2 : Int).toNat (⟨wrap64 (((rd_T71 (rd_L7 x7_3 x8_1) x53_2).f0) + ((rd_T71 (rd_L7 x7_3 (ji37)) (ji40)).f0)), (rd_T71 (rd_L7 x7_3 x8_1) x53_2).f1⟩ : S71)) := ⟨_, rfl⟩
                               replace H : (impl_fillings.l2 k3 l0 a1 a2 (x7_3.set (x8_1 : Int).toNat y396) x8_1 (wrap64 ((wrap64 ((rd_T66 l0 x8_1).f0)) + a2)) x53_2 (wrap64 (x11_3 + 1)) ((rd_L7 y362 x8_1).length : Int) x53_2) = some r := by first | (rw [hy396]; with_reducible exact H) | (have H2_ := (Option.bind_some _ _).symm.trans H; rw [hy396]; with_reducible exact H2_) | (have H2_ := (Option.bind_some _ _).symm.trans H; with_reducible exact H2_) | with_reducible exact H | (rw [hy396]; exact H) | exact H
                               have Ny396 := Aside0.mk hy396
                               clear hy396
                               obtain ⟨y398, hy398⟩ : ∃ y_ : List (List (S71)), y_ = (x7_3.set (x8_1 : Int).toNat y396) := ⟨_, rfl⟩
                               replace H : (impl_fillings.l2 k3 l0 a1 a2 y398 x8_1 (wrap64 ((wrap64 ((rd_T66 l0 x8_1).f0)) + a2)) x53_2 (wrap64 (x11_3 + 1)) ((rd_L7 y362 x8_1).length : Int) x53_2) = some r := by first | (rw [hy398]; with_reducible exact H) | (have H2_ := (Option.bind_some _ _).symm.trans H; rw [hy398]; with_reducible exact H2_) | (have H2_ := (Option.bind_some _ _).symm.trans H; with_reducible exact H2_) | with_reducible exact H | (rw [hy398]; exact H) | exact H
                               have Ny398 := Aside0.mk hy398
                               clear hy398
                               have H' := Aside0.mk H
                               clear H
                               have p369 : 0 ≤ (x8_1 : Int) := of_decide_eq_true (by first | (with_reducible assumption) | assumption)
                               have q369 : x8_1 < (l0.length : Int) := of_decide_eq_true (by first | (with_reducible assumption) | assumption)
                               obtain ⟨ad369, e369, hx369_0, hx369_1⟩ := at_T66 HR0.out x8_1 p369 q369
                               obtain rfl : ad367 = ad369 := (by injection e369)
                               replace hx369_0 := (HB.out.cell (World.block_lt_of_cell? w _ hx369_0)).trans hx369_0
                               replace hx369_1 := (HB.out.cell (World.block_lt_of_cell? w _ hx369_1)).trans hx369_1
                               replace p369 := eq_true p369
                               replace q369 := eq_true q369
                               have p370 : 0 ≤ ((ji37) : Int) := of_decide_eq_true (by first | (with_reducible assumption) | assumption)
                               have q370 : (ji37) < (x7_3.length : Int) := of_decide_eq_true (by first | (with_reducible assumption) | assumption)
                               obtain ⟨ad370, A370_0, c370_0, e370, hx370_0, hl370_0, hi370_0⟩ := at_L7 (Kd.S_reads' HO_7.out).2.2 (ji37) p370 q370
                               obtain rfl : (⟨go15, 0, none⟩ : Addr) = ad370 := (by injection e370)
                               obtain ⟨ce370, hce370, hMe370, hcc370⟩ := Kd.S_get HO_7.out [] (ji37) p370 (by first | exact q370 | exact of_decide_eq_true (by first | (with_reducible assumption) | assumption) | (have e_ := (Kd.S_reads' HO_7.out).1; omega))
                               obtain ⟨ve370_0, rfl, ge370_0⟩ := hMe370
                               have hv370_0 := hcc370 0 _ rfl
                               rw [Nat.add_zero, show ((Kd.slice 71 k71)).sz = 1 from rfl, Nat.mul_one] at hv370_0
                               replace hv370_0 := Option.some.inj (hv370_0.symm.trans hx370_0)
                               rw [hv370_0] at ge370_0
                               have HL370_0 := Aside0.mk (show Kd.R k71 71 _ _ _ _ (rd_L7 x7_3 (ji37)) from ge370_0)
                               clear hv370_0 ge370_0
                               have HX370_0 := Aside0.mk hx370_0
                               clear hcc370 hce370
                               (first | simp only [add_plain] at hx370_0 | simp only [add_at] at hx370_0 | simp only [Addr.add, Nat.zero_add] at hx370_0 | skip)
                               have HR370_0 := Aside0.mk hi370_0
                               have HC370_0 := Aside0.mk hl370_0
                               clear hi370_0 hl370_0
                               replace p370 := eq_true p370
                               replace q370 := eq_true q370
                               have p371 : 0 ≤ ((ji40) : Int) := of_decide_eq_true (by first | (with_reducible assumption) | assumption)
                               have q371 : (ji40) < ((rd_L7 x7_3 (ji37)).length : Int) := of_decide_eq_true (by first | (with_reducible assumption) | assumption)
                               obtain ⟨ad371, e371, hx371_0, hx371_1⟩ := at_T71 (by repeat (first | (with_reducible exact HR370_0.out) | (with_reducible refine Kd.C_alloc ?_ _) | (with_reducible refine Kd.C_drewN ?_ _) | (with_reducible refine Kd.C_drew ?_) | exact HR370_0.out)) (ji40) p371 q371
                               cases e371
                               replace p371 := eq_true p371
                               replace q371 := eq_true q371
                               try go_wp2_with (first | ((with_reducible refine gate_dst (N := 12) rfl ?_); refine box_event ?hg (N := 12) ?hd (cs := #[.int .i64 0, .int .i64 0]) (t := 71) ?hr ?_; (case hd => rfl); (case hg => rfl); (case hr => first | (go_simp; done) | (go_simp; rfl)); intro gb372 hg w89 hbox hb; have n0_ := Aside0.mk (Kd.S_below (Kd.S_elderB (by (with_reducible repeat (first | apply Kd.S_alloc | apply Kd.S_drewN | apply Kd.S_drew)); exact HO_7.out) gb372 (Nat.le_of_eq hg.symm)) hb); have n1_ := Aside0.mk (Kd.R_below (Kd.R_elderB (by (with_reducible repeat (first | apply Kd.R_alloc | apply Kd.R_drewN | apply Kd.R_drew)); exact HL370_0.out) gb372 (Nat.le_of_eq hg.symm)) hb); have n2_ := Aside0.mk (Kd.C_below (by repeat (first | (with_reducible exact HR370_0.out) | (with_reducible refine Kd.C_alloc ?_ _) | (with_reducible refine Kd.C_drewN ?_ _) | (with_reducible refine Kd.C_drew ?_) | exact HR370_0.out)) hb); have n3_ := Aside0.mk (pw_cell_below hb HX370_0.out); have n4_ := Aside0.mk (below_step (by repeat (first | (with_reducible first | exact HB.out | apply below_alloc | apply pw_below_drewN | apply below_drew1) | exact HB.out)) hb); have n5_ := Aside0.mk (hbox); have n6_ := Aside0.mk ((by rw [hg]; exact (below_size (by repeat (first | (with_reducible first | exact HB.out | apply below_alloc | apply pw_below_drewN | apply below_drew1) | exact HB.out))) : w.heap.size ≤ gb372)); have n7_ := Aside0.mk ((by rw [hg]; exact (below_size (by repeat (first | (with_reducible first | exact HB.out | apply below_alloc | apply pw_below_drewN | apply below_drew1) | exact HB.out))) : w.heap.size ≤ gb372)); clear HO_7; clear HL370_0; clear HR370_0; clear HX370_0; clear HB; have HO_7 := n0_; have HL370_0 := n1_; have HR370_0 := n2_; have HX370_0 := n3_; have HB := n4_; have BK372 := n5_; have GW372 := n6_; have GE372 := n7_; clear n0_ n1_ n2_ n3_ n4_ n5_ n6_ n7_; clear hb hbox hg; have hcz90_0 : w89.cell? ⟨gb372, 0, none⟩ = some (.int .i64 0) := (blk_cell BK372.out 0).trans rfl; have hcz90_1 : w89.cell? ⟨gb372, 1, none⟩ = some (.int .i64 0) := (blk_cell BK372.out 1).trans rfl; have hfz90_0 := blk_frozen BK372.out 0; have hfz90_1 := blk_frozen BK372.out 1) | ((with_reducible refine gate_store (t := 71) (p := 12) rfl ?_); refine store_event (t := 71) (p := 12) (v := ?vo_w91) (w1 := ((w89.setCell ⟨gb372, 0, none⟩ (.int .i64 ((rd_T71 (rd_L7 x7_3 (ji37)) (ji40)).f0))).setCell ⟨gb372, 1, none⟩ (.int .i64 ((rd_T71 (rd_L7 x7_3 (ji37)) (ji40)).f1)))) ?hg ?ho ?hn ?hr ?_; (case ho => rfl); (case hg => rfl); (case hn => rfl); (case hr => first | (go_simp; done) | (go_simp; rfl)); intro w91 hw; have n0_ : Aside0 (Kd.S (Kd.slice 71 k71) 72 w91 w.heap.size (fun k_ => k_ ≠ gb372) (.slice (some ⟨go15, 0, none⟩) x7_3.length co15) x7_3) := ⟨(by rw [hw]; exact (by (with_reducible repeat (first | apply Kd.S_alloc | apply Kd.S_drewN | apply Kd.S_drew)); exact Kd.S_mono (Kd.S_far (p := ⟨gb372, 1, none⟩) (Kd.S_far (p := ⟨gb372, 0, none⟩) (Kd.S_mono HO_7.out (fun k_ hk => (⟨hk, hk.2⟩ : _ ∧ k_ ≠ gb372))) (fun _ hk => hk.2) (.int .i64 ((rd_T71 (rd_L7 x7_3 (ji37)) (ji40)).f0))) (fun _ hk => hk.2) (.int .i64 ((rd_T71 (rd_L7 x7_3 (ji37)) (ji40)).f1))) (fun _ hk => hk.1.2)))⟩; have n1_ : Aside0 (Kd.R k71 71 w91 w.heap.size (fun k_ => some k_ ≠ (.slice (some ⟨go15, 0, none⟩) x7_3.length co15 : Value).ownBlock ∧ k_ ≠ gb372) (.slice (some ad371) (rd_L7 x7_3 (ji37)).length c370_0) (rd_L7 x7_3 (ji37))) := ⟨(by rw [hw]; exact (by (with_reducible repeat (first | apply Kd.R_alloc | apply Kd.R_drewN | apply Kd.R_drew)); exact Kd.R_mono (Kd.R_far (p := ⟨gb372, 1, none⟩) (Kd.R_far (p := ⟨gb372, 0, none⟩) (Kd.R_mono HL370_0.out (fun k_ hk => (⟨hk, hk.2⟩ : _ ∧ k_ ≠ gb372))) (fun _ hk => hk.2) (.int .i64 ((rd_T71 (rd_L7 x7_3 (ji37)) (ji40)).f0))) (fun _ hk => hk.2) (.int .i64 ((rd_T71 (rd_L7 x7_3 (ji37)) (ji40)).f1))) (fun _ hk => ⟨hk.1.1.2, hk.1.2⟩)))⟩; have n2_ : Aside0 (w91.heap[gb372]? = some (.cells #[.int .i64 ((rd_T71 (rd_L7 x7_3 (ji37)) (ji40)).f0), .int .i64 ((rd_T71 (rd_L7 x7_3 (ji37)) (ji40)).f1)] 71 (0, 0))) := ⟨(by rw [hw]; exact (by (with_reducible repeat (first | refine blk_drewN ?_ _ | refine blk_drew ?_ | refine blk_alloc ?_ _)); refine blk_put (cs := #[.int .i64 ((rd_T71 (rd_L7 x7_3 (ji37)) (ji40)).f0), .int .i64 0]) ?_ 1 _ rfl; (with_reducible repeat (first | refine blk_drewN ?_ _ | refine blk_drew ?_ | refine blk_alloc ?_ _)); refine blk_put (cs := #[.int .i64 0, .int .i64 0]) ?_ 0 _ rfl; (with_reducible repeat (first | refine blk_drewN ?_ _ | refine blk_drew ?_ | refine blk_alloc ?_ _)); exact BK372.out))⟩; have n3_ : Aside0 (Below w.heap.size w w91) := ⟨(by rw [hw]; exact (by repeat (first | (with_reducible first | exact HB.out | apply below_alloc | apply pw_below_drewN | apply below_drew1 | refine below_set ?_ GE372.out) | exact HB.out)))⟩; clear hw; clear HO_7; clear HL370_0; clear BK372; clear HB; have HO_7 := n0_; have HL370_0 := n1_; have BK372 := n2_; have HB := n3_; clear n0_ n1_ n2_ n3_; have hcz92_0 : w91.cell? ⟨gb372, 0, none⟩ = some (.int .i64 ((rd_T71 (rd_L7 x7_3 (ji37)) (ji40)).f0)) := (blk_cell BK372.out 0).trans rfl; have hcz92_1 : w91.cell? ⟨gb372, 1, none⟩ = some (.int .i64 ((rd_T71 (rd_L7 x7_3 (ji37)) (ji40)).f1)) := (blk_cell BK372.out 1).trans rfl; have hfz92_0 := blk_frozen BK372.out 0; have hfz92_1 := blk_frozen BK372.out 1; have p373 : 0 ≤ (x8_1 : Int) := of_decide_eq_true (by first | (with_reducible assumption) | assumption); have q373 : x8_1 < (x7_3.length : Int) := of_decide_eq_true (by first | (with_reducible assumption) | assumption); obtain ⟨ad373, A373_0, c373_0, e373, hx373_0, hl373_0, hi373_0⟩ := at_L7 (Kd.S_reads' HO_7.out).2.2 x8_1 p373 q373; obtain rfl : (⟨go15, 0, none⟩ : Addr) = ad373 := (by injection e373); obtain ⟨ce373, hce373, hMe373, hcc373⟩ := Kd.S_get HO_7.out [] x8_1 p373 (by first | exact q373 | exact of_decide_eq_true (by first | (with_reducible assumption) | assumption) | (have e_ := (Kd.S_reads' HO_7.out).1; omega)); obtain ⟨ve373_0, rfl, ge373_0⟩ := hMe373; have hv373_0 := hcc373 0 _ rfl; rw [Nat.add_zero, show ((Kd.slice 71 k71)).sz = 1 from rfl, Nat.mul_one] at hv373_0; replace hv373_0 := Option.some.inj (hv373_0.symm.trans hx373_0); rw [hv373_0] at ge373_0; have HL373_0 := Aside0.mk (show Kd.R k71 71 _ _ _ _ (rd_L7 x7_3 x8_1) from ge373_0); clear hv373_0 ge373_0; have HX373_0 := Aside0.mk hx373_0; clear hcc373 hce373; (first | simp only [add_plain] at hx373_0 | simp only [add_at] at hx373_0 | simp only [Addr.add, Nat.zero_add] at hx373_0 | skip); have HR373_0 := Aside0.mk hi373_0; have HC373_0 := Aside0.mk hl373_0; clear hi373_0 hl373_0; replace p373 := eq_true p373; replace q373 := eq_true q373; have p374 : 0 ≤ (x53_2 : Int) := of_decide_eq_true (by first | (with_reducible assumption) | assumption); have q374 : x53_2 < ((rd_L7 x7_3 x8_1).length : Int) := of_decide_eq_true (by first | (with_reducible assumption) | assumption); obtain ⟨ad374, e374, hx374_0, hx374_1⟩ := at_T71 (by repeat (first | (with_reducible exact HR373_0.out) | (with_reducible refine Kd.C_alloc ?_ _) | (with_reducible refine Kd.C_drewN ?_ _) | (with_reducible refine Kd.C_drew ?_) | exact HR373_0.out)) x53_2 p374 q374; cases e374; replace p374 := eq_true p374; replace q374 := eq_true q374) | ((with_reducible refine gate_dst (N := 13) rfl ?_); refine box_event ?hg (N := 13) ?hd (cs := #[.int .i64 0, .int .i64 0]) (t := 71) ?hr ?_; (case hd => rfl); (case hg => rfl); (case hr => first | (go_simp; done) | (go_simp; rfl)); intro gb375 hg w93 hbox hb; have n0_ := Aside0.mk (Kd.S_below (Kd.S_elderB (by (with_reducible repeat (first | apply Kd.S_alloc | apply Kd.S_drewN | apply Kd.S_drew)); exact HO_7.out) gb375 (Nat.le_of_eq hg.symm)) hb); have n1_ := Aside0.mk (Kd.R_below (Kd.R_elderB (by (with_reducible repeat (first | apply Kd.R_alloc | apply Kd.R_drewN | apply Kd.R_drew)); exact HL370_0.out) gb375 (Nat.le_of_eq hg.symm)) hb); have n2_ := Aside0.mk (Kd.R_below (Kd.R_elderB (by (with_reducible repeat (first | apply Kd.R_alloc | apply Kd.R_drewN | apply Kd.R_drew)); exact HL373_0.out) gb375 (Nat.le_of_eq hg.symm)) hb); have n3_ := Aside0.mk (blk_below (g := gb372) (o := .cells #[.int .i64 ((rd_T71 (rd_L7 x7_3 (ji37)) (ji40)).f0), .int .i64 ((rd_T71 (rd_L7 x7_3 (ji37)) (ji40)).f1)] 71 (0, 0)) (by (with_reducible repeat (first | refine blk_drewN ?_ _ | refine blk_drew ?_ | refine blk_alloc ?_ _)); exact BK372.out) hb); have n4_ := Aside0.mk (Kd.C_below (by repeat (first | (with_reducible exact HR373_0.out) | (with_reducible refine Kd.C_alloc ?_ _) | (with_reducible refine Kd.C_drewN ?_ _) | (with_reducible refine Kd.C_drew ?_) | exact HR373_0.out)) hb); have n5_ := Aside0.mk (pw_cell_below hb HX373_0.out); have n6_ := Aside0.mk (below_step (by repeat (first | (with_reducible first | exact HB.out | apply below_alloc | apply pw_below_drewN | apply below_drew1 | refine below_set ?_ GE372.out) | exact HB.out)) hb); have n7_ := Aside0.mk (hbox); have n8_ := Aside0.mk ((by rw [hg]; exact (below_size (by repeat (first | (with_reducible first | exact HB.out | apply below_alloc | apply pw_below_drewN | apply below_drew1 | refine below_set ?_ GE372.out) | exact HB.out))) : w.heap.size ≤ gb375)); have n9_ := Aside0.mk ((by rw [hg]; exact (below_size (by repeat (first | (with_reducible first | exact HB.out | apply below_alloc | apply pw_below_drewN | apply below_drew1 | refine below_set ?_ GE372.out) | exact HB.out))) : w.heap.size ≤ gb375)); have n10_ := Aside0.mk ((by rw [hg]; exact Nat.ne_of_lt (blk_lt (g := gb372) (o := .cells #[.int .i64 ((rd_T71 (rd_L7 x7_3 (ji37)) (ji40)).f0), .int .i64 ((rd_T71 (rd_L7 x7_3 (ji37)) (ji40)).f1)] 71 (0, 0)) (by (with_reducible repeat (first | refine blk_drewN ?_ _ | refine blk_drew ?_ | refine blk_alloc ?_ _)); exact BK372.out)) : gb372 ≠ gb375)); have n11_ := Aside0.mk ((by rw [hg]; exact Nat.ne_of_gt (blk_lt (g := gb372) (o := .cells #[.int .i64 ((rd_T71 (rd_L7 x7_3 (ji37)) (ji40)).f0), .int .i64 ((rd_T71 (rd_L7 x7_3 (ji37)) (ji40)).f1)] 71 (0, 0)) (by (with_reducible repeat (first | refine blk_drewN ?_ _ | refine blk_drew ?_ | refine blk_alloc ?_ _)); exact BK372.out)) : gb375 ≠ gb372)); clear HO_7; clear HL370_0; clear HL373_0; clear BK372; clear HR373_0; clear HX373_0; clear HB; have HO_7 := n0_; have HL370_0 := n1_; have HL373_0 := n2_; have BK372 := n3_; have HR373_0 := n4_; have HX373_0 := n5_; have HB := n6_; have BK375 := n7_; have GW375 := n8_; have GE375 := n9_; have NB372_375 := n10_; have NB375_372 := n11_; clear n0_ n1_ n2_ n3_ n4_ n5_ n6_ n7_ n8_ n9_ n10_ n11_; clear hb hbox hg; have hnb94 := NB375_372.out; have hnc94 := NB372_375.out; have hcz95_0 : w93.cell? ⟨gb375, 0, none⟩ = some (.int .i64 0) := (blk_cell BK375.out 0).trans rfl; have hcz95_1 : w93.cell? ⟨gb375, 1, none⟩ = some (.int .i64 0) := (blk_cell BK375.out 1).trans rfl; have hfz95_0 := blk_frozen BK375.out 0; have hfz95_1 := blk_frozen BK375.out 1; have hcz96_0 : w93.cell? ⟨gb372, 0, none⟩ = some (.int .i64 ((rd_T71 (rd_L7 x7_3 (ji37)) (ji40)).f0)) := (blk_cell BK372.out 0).trans rfl; have hcz96_1 : w93.cell? ⟨gb372, 1, none⟩ = some (.int .i64 ((rd_T71 (rd_L7 x7_3 (ji37)) (ji40)).f1)) := (blk_cell BK372.out 1).trans rfl; have hfz96_0 := blk_frozen BK372.out 0; have hfz96_1 := blk_frozen BK372.out 1))
                               have n0_ : Aside0 (Kd.S (Kd.slice 71 k71) 72 ((w93.setCell ⟨gb375, 0, none⟩ (.int .i64 ((rd_T71 (rd_L7 x7_3 x8_1) x53_2).f0))).setCell ⟨gb375, 1, none⟩ (.int .i64 ((rd_T71 (rd_L7 x7_3 x8_1) x53_2).f1))) w.heap.size (fun k_ => k_ ≠ gb372 ∧ k_ ≠ gb375) (.slice (some ⟨go15, 0, none⟩) x7_3.length co15) x7_3) := ⟨by (with_reducible repeat (first | apply Kd.S_alloc | apply Kd.S_drewN | apply Kd.S_drew)); exact Kd.S_mono (Kd.S_far (p := ⟨gb375, 1, none⟩) (Kd.S_far (p := ⟨gb375, 0, none⟩) (Kd.S_mono HO_7.out (fun k_ hk => (⟨hk, hk.2⟩ : _ ∧ k_ ≠ gb375))) (fun _ hk => hk.2) (.int .i64 ((rd_T71 (rd_L7 x7_3 x8_1) x53_2).f0))) (fun _ hk => hk.2) (.int .i64 ((rd_T71 (rd_L7 x7_3 x8_1) x53_2).f1))) (fun _ hk => ⟨hk.1.1, hk.1.2⟩)⟩
                               have n1_ : Aside0 (Kd.R k71 71 ((w93.setCell ⟨gb375, 0, none⟩ (.int .i64 ((rd_T71 (rd_L7 x7_3 x8_1) x53_2).f0))).setCell ⟨gb375, 1, none⟩ (.int .i64 ((rd_T71 (rd_L7 x7_3 x8_1) x53_2).f1))) w.heap.size (fun k_ => some k_ ≠ (.slice (some ⟨go15, 0, none⟩) x7_3.length co15 : Value).ownBlock ∧ k_ ≠ gb372 ∧ k_ ≠ gb375) (.slice (some ad371) (rd_L7 x7_3 (ji37)).length c370_0) (rd_L7 x7_3 (ji37))) := ⟨by (with_reducible repeat (first | apply Kd.R_alloc | apply Kd.R_drewN | apply Kd.R_drew)); exact Kd.R_mono (Kd.R_far (p := ⟨gb375, 1, none⟩) (Kd.R_far (p := ⟨gb375, 0, none⟩) (Kd.R_mono HL370_0.out (fun k_ hk => (⟨hk, hk.2⟩ : _ ∧ k_ ≠ gb375))) (fun _ hk => hk.2) (.int .i64 ((rd_T71 (rd_L7 x7_3 x8_1) x53_2).f0))) (fun _ hk => hk.2) (.int .i64 ((rd_T71 (rd_L7 x7_3 x8_1) x53_2).f1))) (fun _ hk => ⟨hk.1.1.1, ⟨hk.1.1.2, hk.1.2⟩⟩)⟩
                               have n2_ : Aside0 (Kd.R k71 71 ((w93.setCell ⟨gb375, 0, none⟩ (.int .i64 ((rd_T71 (rd_L7 x7_3 x8_1) x53_2).f0))).setCell ⟨gb375, 1, none⟩ (.int .i64 ((rd_T71 (rd_L7 x7_3 x8_1) x53_2).f1))) w.heap.size (fun k_ => some k_ ≠ (.slice (some ⟨go15, 0, none⟩) x7_3.length co15 : Value).ownBlock ∧ k_ ≠ gb372 ∧ k_ ≠ gb375) (.slice (some ad374) (rd_L7 x7_3 x8_1).length c373_0) (rd_L7 x7_3 x8_1)) := ⟨by (with_reducible repeat (first | apply Kd.R_alloc | apply Kd.R_drewN | apply Kd.R_drew)); exact Kd.R_mono (Kd.R_far (p := ⟨gb375, 1, none⟩) (Kd.R_far (p := ⟨gb375, 0, none⟩) (Kd.R_mono HL373_0.out (fun k_ hk => (⟨hk, hk.2⟩ : _ ∧ k_ ≠ gb375))) (fun _ hk => hk.2) (.int .i64 ((rd_T71 (rd_L7 x7_3 x8_1) x53_2).f0))) (fun _ hk => hk.2) (.int .i64 ((rd_T71 (rd_L7 x7_3 x8_1) x53_2).f1))) (fun _ hk => ⟨hk.1.1.2, ⟨hk.1.1.1, hk.1.2⟩⟩)⟩
                               have n3_ : Aside0 (((w93.setCell ⟨gb375, 0, none⟩ (.int .i64 ((rd_T71 (rd_L7 x7_3 x8_1) x53_2).f0))).setCell ⟨gb375, 1, none⟩ (.int .i64 ((rd_T71 (rd_L7 x7_3 x8_1) x53_2).f1))).heap[gb372]? = some (.cells #[.int .i64 ((rd_T71 (rd_L7 x7_3 (ji37)) (ji40)).f0), .int .i64 ((rd_T71 (rd_L7 x7_3 (ji37)) (ji40)).f1)] 71 (0, 0))) := ⟨by (with_reducible repeat (first | refine blk_drewN ?_ _ | refine blk_drew ?_ | refine blk_alloc ?_ _)); refine blk_far ?_ NB372_375.out _; (with_reducible repeat (first | refine blk_drewN ?_ _ | refine blk_drew ?_ | refine blk_alloc ?_ _)); refine blk_far ?_ NB372_375.out _; (with_reducible repeat (first | refine blk_drewN ?_ _ | refine blk_drew ?_ | refine blk_alloc ?_ _)); exact BK372.out⟩
                               have n4_ : Aside0 (((w93.setCell ⟨gb375, 0, none⟩ (.int .i64 ((rd_T71 (rd_L7 x7_3 x8_1) x53_2).f0))).setCell ⟨gb375, 1, none⟩ (.int .i64 ((rd_T71 (rd_L7 x7_3 x8_1) x53_2).f1))).heap[gb375]? = some (.cells #[.int .i64 ((rd_T71 (rd_L7 x7_3 x8_1) x53_2).f0), .int .i64 ((rd_T71 (rd_L7 x7_3 x8_1) x53_2).f1)] 71 (0, 0))) := ⟨by (with_reducible repeat (first | refine blk_drewN ?_ _ | refine blk_drew ?_ | refine blk_alloc ?_ _)); refine blk_put (cs := #[.int .i64 ((rd_T71 (rd_L7 x7_3 x8_1) x53_2).f0), .int .i64 0]) ?_ 1 _ rfl; (with_reducible repeat (first | refine blk_drewN ?_ _ | refine blk_drew ?_ | refine blk_alloc ?_ _)); refine blk_put (cs := #[.int .i64 0, .int .i64 0]) ?_ 0 _ rfl; (with_reducible repeat (first | refine blk_drewN ?_ _ | refine blk_drew ?_ | refine blk_alloc ?_ _)); exact BK375.out⟩
                               have n5_ : Aside0 (Below w.heap.size w ((w93.setCell ⟨gb375, 0, none⟩ (.int .i64 ((rd_T71 (rd_L7 x7_3 x8_1) x53_2).f0))).setCell ⟨gb375, 1, none⟩ (.int .i64 ((rd_T71 (rd_L7 x7_3 x8_1) x53_2).f1)))) := ⟨by repeat (first | (with_reducible first | exact HB.out | apply below_alloc | apply pw_below_drewN | apply below_drew1 | refine below_set ?_ GE372.out | refine below_set ?_ GE375.out) | exact HB.out)⟩
                               (try clear HO_7)
                               (try clear HL370_0)
                               (try clear HL373_0)
                               (try clear BK372)
                               (try clear BK375)
                               (try clear HB)
                               generalize ((w93.setCell ⟨gb375, 0, none⟩ (.int .i64 ((rd_T71 (rd_L7 x7_3 x8_1) x53_2).f0))).setCell ⟨gb375, 1, none⟩ (.int .i64 ((rd_T71 (rd_L7 x7_3 x8_1) x53_2).f1))) = w97 at n0_ n1_ n2_ n3_ n4_ n5_ ⊢
                               have HO_7 := n0_
                               have HL370_0 := n1_
                               have HL373_0 := n2_
                               have BK372 := n3_
                               have BK375 := n4_
                               have HB := n5_
                               clear n0_ n1_ n2_ n3_ n4_ n5_
                               have n0_ := Aside0.mk (Kd.S_drew HO_7.out)
                               have n1_ := Aside0.mk (Kd.R_drew HL370_0.out)
                               have n2_ := Aside0.mk (Kd.R_drew HL373_0.out)
                               have n3_ := Aside0.mk (blk_drew BK372.out)
                               have n4_ := Aside0.mk (blk_drew BK375.out)
                               have n5_ := Aside0.mk (below_drew1 HB.out)
                               clear HO_7
                               clear HL370_0
                               clear HL373_0
                               clear BK372
                               clear BK375
                               clear HB
                               have HO_7 := n0_
                               have HL370_0 := n1_
                               have HL373_0 := n2_
                               have BK372 := n3_
                               have BK375 := n4_
                               have HB := n5_
                               clear n0_ n1_ n2_ n3_ n4_ n5_
                               have p394 : 0 ≤ (x8_1 : Int) := of_decide_eq_true (by first | (with_reducible assumption) | assumption)
                               have q394 : x8_1 < (x7_3.length : Int) := of_decide_eq_true (by first | (with_reducible assumption) | assumption)
                               obtain ⟨ad394, A394_0, c394_0, e394, hx394_0, hl394_0, hi394_0⟩ := at_L7 (Kd.S_reads' HO_7.out).2.2 x8_1 p394 q394
                               obtain rfl : (⟨go15, 0, none⟩ : Addr) = ad394 := (by injection e394)
                               obtain ⟨ce394, hce394, hMe394, hcc394⟩ := Kd.S_get HO_7.out [] x8_1 p394 (by first | exact q394 | exact of_decide_eq_true (by first | (with_reducible assumption) | assumption) | (have e_ := (Kd.S_reads' HO_7.out).1; omega))
                               obtain ⟨ve394_0, rfl, ge394_0⟩ := hMe394
                               have hv394_0 := hcc394 0 _ rfl
                               rw [Nat.add_zero, show ((Kd.slice 71 k71)).sz = 1 from rfl, Nat.mul_one] at hv394_0
                               replace hv394_0 := Option.some.inj (hv394_0.symm.trans hx394_0)
                               rw [hv394_0] at ge394_0
                               have HL394_0 := Aside0.mk (show Kd.R k71 71 _ _ _ _ (rd_L7 x7_3 x8_1) from ge394_0)
                               clear hv394_0 ge394_0
                               have HX394_0 := Aside0.mk hx394_0
                               clear hcc394 hce394
                               (first | simp only [add_plain] at hx394_0 | simp only [add_at] at hx394_0 | simp only [Addr.add, Nat.zero_add] at hx394_0 | skip)
                               have HR394_0 := Aside0.mk hi394_0
                               have HC394_0 := Aside0.mk hl394_0
                               clear hi394_0 hl394_0
                               replace p394 := eq_true p394
                               replace q394 := eq_true q394
                               have p395 : 0 ≤ (x53_2 : Int) := of_decide_eq_true (by first | (with_reducible assumption) | assumption)
                               have q395 : x53_2 < ((rd_L7 x7_3 x8_1).length : Int) := of_decide_eq_true (by first | (with_reducible assumption) | assumption)
                               obtain ⟨ad395, e395, hx395_0, hx395_1⟩ := at_T71 (by repeat (first | (with_reducible exact HR394_0.out) | (with_reducible refine Kd.C_alloc ?_ _) | (with_reducible refine Kd.C_drewN ?_ _) | (with_reducible refine Kd.C_drew ?_) | exact HR394_0.out)) x53_2 p395 q395
                               cases e395
                               replace p395 := eq_true p395
                               replace q395 := eq_true q395
                               have p88 : 0 ≤ (x53_2 : Int) := of_decide_eq_true (by first | (with_reducible assumption) | assumption)
                               have q88 : (x53_2 : Int) < (((rd_L7 x7_3 x8_1).length : Int) : Int) := of_decide_eq_true (by first | (with_reducible assumption) | assumption)
                               obtain ⟨go88, co88, eo88, gb88, gl88, cl88, HG88⟩ := Kd.R_form HL394_0.out (by omega)
                               (first | cases eo88 | (injection eo88 with ea_ en_ ec_; (first | subst ea_ | (injection ea_ with ea_; subst ea_)); subst ec_; clear en_))
                               have GB88 := Aside0.mk gb88
                               have GG88 := Aside0.mk HG88
                               clear gb88 gl88 HG88
                               (first | simp only [add_plain] at hx395_0 | skip)
                               (first | simp only [add_plain] at hx395_1 | skip)
                               obtain ⟨ce88, hcl88, hM88, hcc88, hfr88⟩ := Kd.R_elem HL394_0.out z71 (x53_2 : Int) p88 q88
                               obtain rfl := k71_openM hM88
                               have hx88_0 : World.cell? _ ⟨go88, (x53_2 : Int).toNat * 2, none⟩ = some (.int .i64 ((rd_T71 (rd_L7 x7_3 x8_1) x53_2).f0)) := hcc88 0 _ rfl
                               have hx88_1 : World.cell? _ ⟨go88, (x53_2 : Int).toNat * 2 + 1, none⟩ = some (.int .i64 ((rd_T71 (rd_L7 x7_3 x8_1) x53_2).f1)) := hcc88 1 _ rfl
                               have hf88_0 : World.frozen? _ ⟨go88, (x53_2 : Int).toNat * 2, none⟩ = false := hfr88 0
                               have hf88_1 : World.frozen? _ ⟨go88, (x53_2 : Int).toNat * 2 + 1, none⟩ = false := hfr88 1
                               clear hcl88 hcc88 hfr88; (try clear hM88)
                               replace p88 := eq_true p88
                               replace q88 := eq_true q88
                               have hq99 : (x8_1 : Int) < (x7_3.length : Int) := (by have h_ : (x8_1 : Int) < ((x7_3.length : Int) : Int) := of_decide_eq_true (by first | (with_reducible assumption) | assumption); first | exact h_ | (have e_ := (Kd.S_reads' HO_7.out).1; omega) | simpa only [List.length_set, List.length_set] using h_)
                               obtain ⟨oki99, ce99, hcl99, hM99, hcc99, hok99, hbk99⟩ := Kd.S_borrow HO_7.out [] (x8_1 : Int) (of_decide_eq_true (by first | (with_reducible assumption) | assumption)) (by first | exact hq99 | (have e_ := (Kd.S_reads' HO_7.out).1; omega))
                               obtain ⟨ve99_0, rfl, ge99_0⟩ := hM99
                               have hv99 := hcc99 0 _ rfl
                               rw [Nat.add_zero, show ((Kd.slice 71 k71)).sz = 1 from rfl, Nat.mul_one] at hv99
                               replace hv99 := Option.some.inj (hv99.symm.trans HX394_0.out)
                               subst hv99
                               clear hcc99 hcl99
                               replace ge99_0 := (show Kd.R k71 71 _ _ _ _ (rd_L7 x7_3 x8_1) from ge99_0)
                               obtain ⟨cf99, hcl99, hN99, hcc99, hfr99⟩ := Kd.R_elem ge99_0 z71 (x53_2 : Int) (of_decide_eq_true (by first | (with_reducible assumption) | assumption)) (by have h_ : (x53_2 : Int) < (((rd_L7 x7_3 x8_1).length : Int) : Int) := of_decide_eq_true (by first | (with_reducible assumption) | assumption); first | exact h_ | (have e_ := (Kd.R_reads' HR394_0.out).1; omega) | simpa using h_)
                               obtain rfl := k71_openM hN99
                               have HP99 := Kd.R_seg ge99_0 (x53_2 : Int) (of_decide_eq_true (by first | (with_reducible assumption) | assumption)) (by have h_ : (x53_2 : Int) < (((rd_L7 x7_3 x8_1).length : Int) : Int) := of_decide_eq_true (by first | (with_reducible assumption) | assumption); first | exact h_ | (have e_ := (Kd.R_reads' HR394_0.out).1; omega) | simpa using h_) (seg := [.int .i64 (wrap64 (((rd_T71 (rd_L7 x7_3 x8_1) x53_2).f0) + ((rd_T71 (rd_L7 x7_3 (ji37)) (ji40)).f0)))]) (j := 0) hcl99 hcc99 (show 1 ≤ 2 from by decide) (x' := (⟨wrap64 (((rd_T71 (rd_L7 x7_3 x8_1) x53_2).f0) + ((rd_T71 (rd_L7 x7_3 (ji37)) (ji40)).f0)), (rd_T71 (rd_L7 x7_3 x8_1) x53_2).f1⟩ : S71)) (k71_mkM _ _ _ (⟨wrap64 (((rd_T71 (rd_L7 x7_3 x8_1) x53_2).f0) + ((rd_T71 (rd_L7 x7_3 (ji37)) (ji40)).f0)), (rd_T71 (rd_L7 x7_3 x8_1) x53_2).f1⟩ : S71)) (fun _ hk => hk)
                               clear hcl99 hcc99 hfr99; (try clear hN99)
                               rw [← Ny396.out] at HP99
                               have HS99 := hbk99 HP99.2 (fun k_ e_ => by injection e_ with e_; subst e_; exact ge99_0.1 _ rfl) (x' := y396) (Kd.M_row HP99.1)
                               rw [← Ny398.out] at HS99
                               have HQ99 := Aside0.mk HS99
                               clear HP99 HS99 hbk99 hok99
                               refine start_ (n := 14) (S := fun w' => w'.cell? ⟨gb372, 0, none⟩ = some (.int .i64 ((rd_T71 (rd_L7 x7_3 (ji37)) (ji40)).f0)) ∧ w'.cell? ⟨gb372, 1, none⟩ = some (.int .i64 ((rd_T71 (rd_L7 x7_3 (ji37)) (ji40)).f1)) ∧ w'.cell? ⟨go15, (x8_1).toNat, none⟩ = some (.slice (some ⟨go88, 0, none⟩) (rd_L7 x7_3 x8_1).length c394_0) ∧ w'.cell? ⟨go88, ((x53_2).toNat * 2), none⟩ = some (.int .i64 ((rd_T71 (rd_L7 x7_3 x8_1) x53_2).f0)) ∧ w'.cell? ⟨go88, ((x53_2).toNat * 2) + 1, none⟩ = some (.int .i64 ((rd_T71 (rd_L7 x7_3 x8_1) x53_2).f1))) (ds := [13]) #[false, false, false, false, false, false, false, false, false, false, false, false, false, false] (by kernel_rfl) rfl rfl ⟨(blk_cell BK372.out 0).trans rfl, (blk_cell BK372.out 1).trans rfl, hx394_0, hx395_0, hx395_1⟩ (fun hHeld => ?_); refine with_tabW impl_fillings.tab20 impl_fillings.bits20 (fun HT_ HW_ => ?_)
                               generalize w97.drew = w98 at HO_7 HL370_0 HL373_0 BK372 BK375 HB GG88 HL394_0 HQ99 HR394_0 HX394_0 hf88_0 hf88_1 hx394_0 hx395_0 hx395_1 hx88_0 hx88_1 hHeld ⊢
                               refine pure_ (i := 0) (N := some 118) (v := ?_) (a' := ?_) #[true, false, false, false, false, false, false, false, false, false, false, false, false, false] rfl rfl (any_of HT_.out (by kernel_rfl)) (fun _ _ _ h => h) (Or.inl ⟨by rfl, ?_⟩) ?_ ?_
                               rotate_left
                               ·
                                intro w'
                                go_simp
                                with_reducible rfl
                               rotate_left
                               ·
                                simp only [Act.put, List.setIfInBounds_toArray, List.set_cons_zero, List.set_cons_succ, i64_w, i32_w]
                                rfl
                               refine pure_ (i := 1) (N := some 119) (v := ?_) (a' := ?_) #[true, true, false, false, false, false, false, false, false, false, false, false, false, false] rfl rfl (any_of HT_.out (by kernel_rfl)) (fun _ _ _ h => h) (Or.inl ⟨by rfl, ?_⟩) ?_ ?_
                               rotate_left
                               ·
                                intro w'
                                go_simp
                                with_reducible rfl
                               rotate_left
                               ·
                                simp only [Act.put, List.setIfInBounds_toArray, List.set_cons_zero, List.set_cons_succ, i64_w, i32_w]
                                rfl
                               refine pure_ (i := 2) (N := some 120) (v := ?_) (a' := ?_) #[true, true, true, false, false, false, false, false, false, false, false, false, false, false] rfl rfl (any_of HT_.out (by kernel_rfl)) (fun _ _ _ h => h) (Or.inl ⟨by rfl, ?_⟩) ?_ ?_
                               rotate_left
                               ·
                                intro w'
                                go_simp
                                with_reducible rfl
                               rotate_left
                               ·
                                simp only [Act.put, List.setIfInBounds_toArray, List.set_cons_zero, List.set_cons_succ, i64_w, i32_w]
                                rfl
                               refine pure_ (i := 4) (N := some 122) (v := ?_) (a' := ?_) #[true, true, true, false, true, false, false, false, false, false, false, false, false, false] rfl rfl (any_of HT_.out (by kernel_rfl)) (fun _ _ _ h => h) (Or.inl ⟨by rfl, ?_⟩) ?_ ?_
                               rotate_left
                               ·
                                intro w'
                                go_simp
                                with_reducible rfl
                               rotate_left
                               ·
                                simp only [Act.put, List.setIfInBounds_toArray, List.set_cons_zero, List.set_cons_succ, i64_w, i32_w]
                                rfl
                               refine pure_ (i := 8) (N := some 126) (v := ?_) (a' := ?_) #[true, true, true, false, true, false, false, false, true, false, false, false, false, false] rfl rfl (any_of HT_.out (by kernel_rfl)) (fun _ _ _ h => h) (Or.inl ⟨by rfl, ?_⟩) ?_ ?_
                               rotate_left
                               ·
                                intro w'
                                go_simp
                                with_reducible rfl
                               rotate_left
                               ·
                                simp only [Act.put, List.setIfInBounds_toArray, List.set_cons_zero, List.set_cons_succ, i64_w, i32_w]
                                rfl
                               refine take_ (i := 3) (N := some 121) (v := ?_) (a' := ?_) #[true, true, true, true, true, false, false, false, true, false, false, false, false, false] rfl rfl (take_ofW HT_.out HW_.out (by kernel_rfl)) (fun _ _ _ h => h) (Or.inl ⟨by rfl, ?_⟩) hHeld ?_ ?_
                               rotate_left
                               ·
                                rintro w' ⟨s0, s1, s2, s3, s4⟩
                                go_simp
                                with_reducible rfl
                               rotate_left
                               ·
                                simp only [Act.put, List.setIfInBounds_toArray, List.set_cons_zero, List.set_cons_succ, i64_w, i32_w]
                                rfl
                               refine pure_ (i := 5) (N := some 123) (v := ?_) (a' := ?_) #[true, true, true, true, true, true, false, false, true, false, false, false, false, false] rfl rfl (any_of HT_.out (by kernel_rfl)) (fun _ _ _ h => h) (Or.inl ⟨by rfl, ?_⟩) ?_ ?_
                               rotate_left
                               ·
                                intro w'
                                go_simp
                                with_reducible rfl
                               rotate_left
                               ·
                                simp only [Act.put, List.setIfInBounds_toArray, List.set_cons_zero, List.set_cons_succ, i64_w, i32_w]
                                rfl
                               refine pure_ (i := 6) (N := some 124) (v := ?_) (a' := ?_) #[true, true, true, true, true, true, true, false, true, false, false, false, false, false] rfl rfl (any_of HT_.out (by kernel_rfl)) (fun _ _ _ h => h) (Or.inl ⟨by rfl, ?_⟩) ?_ ?_
                               rotate_left
                               ·
                                intro w'
                                go_simp
                                with_reducible rfl
                               rotate_left
                               ·
                                simp only [Act.put, List.setIfInBounds_toArray, List.set_cons_zero, List.set_cons_succ, i64_w, i32_w]
                                rfl
                               refine take_ (i := 7) (N := some 125) (v := ?_) (a' := ?_) #[true, true, true, true, true, true, true, true, true, false, false, false, false, false] rfl rfl (take_ofW HT_.out HW_.out (by kernel_rfl)) (fun _ _ _ h => h) (Or.inl ⟨by rfl, ?_⟩) hHeld ?_ ?_
                               rotate_left
                               ·
                                rintro w' ⟨s0, s1, s2, s3, s4⟩
                                go_simp
                                with_reducible rfl
                               rotate_left
                               ·
                                simp only [Act.put, List.setIfInBounds_toArray, List.set_cons_zero, List.set_cons_succ, i64_w, i32_w]
                                rfl
                               refine take_ (i := 9) (N := some 127) (v := ?_) (a' := ?_) #[true, true, true, true, true, true, true, true, true, true, false, false, false, false] rfl rfl (take_ofW HT_.out HW_.out (by kernel_rfl)) (fun _ _ _ h => h) (Or.inl ⟨by rfl, ?_⟩) hHeld ?_ ?_
                               rotate_left
                               ·
                                rintro w' ⟨s0, s1, s2, s3, s4⟩
                                go_simp
                                with_reducible rfl
                               rotate_left
                               ·
                                simp only [Act.put, List.setIfInBounds_toArray, List.set_cons_zero, List.set_cons_succ, i64_w, i32_w]
                                rfl
                               refine pure_ (i := 10) (N := some 128) (v := ?_) (a' := ?_) #[true, true, true, true, true, true, true, true, true, true, true, false, false, false] rfl rfl (any_of HT_.out (by kernel_rfl)) (fun _ _ _ h => h) (Or.inl ⟨by rfl, ?_⟩) ?_ ?_
                               rotate_left
                               ·
                                intro w'
                                go_simp
                                with_reducible rfl
                               rotate_left
                               ·
                                simp only [Act.put, List.setIfInBounds_toArray, List.set_cons_zero, List.set_cons_succ, i64_w, i32_w]
                                rfl
                               refine pure_ (i := 11) (N := some 129) (v := ?_) (a' := ?_) #[true, true, true, true, true, true, true, true, true, true, true, true, false, false] rfl rfl (any_of HT_.out (by kernel_rfl)) (fun _ _ _ h => h) (Or.inl ⟨by rfl, ?_⟩) ?_ ?_
                               rotate_left
                               ·
                                intro w'
                                go_simp
                                with_reducible rfl
                               rotate_left
                               ·
                                simp only [Act.put, List.setIfInBounds_toArray, List.set_cons_zero, List.set_cons_succ, i64_w, i32_w]
                                rfl
                               refine pure_ (i := 12) (N := some 130) (v := ?_) (a' := ?_) #[true, true, true, true, true, true, true, true, true, true, true, true, true, false] rfl rfl (any_of HT_.out (by kernel_rfl)) (fun _ _ _ h => h) (Or.inl ⟨by rfl, ?_⟩) ?_ ?_
                               rotate_left
                               ·
                                intro w'
                                go_simp
                                with_reducible rfl
                               rotate_left
                               ·
                                simp only [Act.put, List.setIfInBounds_toArray, List.set_cons_zero, List.set_cons_succ, i64_w, i32_w]
                                rfl
                               refine last_ (i := 13) (N := none) #[true, true, true, true, true, true, true, true, true, true, true, true, true, true] rfl rfl (one_of HT_.out (by kernel_rfl)) (by decide) (fun K hK => ?_)
                               refine skip_ (w1 := ?_) (by rfl) rfl ?_ ?_
                               rotate_left
                               ·
                                go_simp
                                rfl
                               refine hK.out _ _ ?_
                               clear hK K
                               refine done_ (done_of HT_.out (by kernel_rfl)) ?_
                               try go_wp2
                               (try simp only [← hl7_3])
                               go_roundg k3
                               case measure => have := HK1.out; have := HK2.out; have := HK3.out; omega
                               case rel => exact ⟨(y398), (wrap64 (x11_3 + 1)), (by first | rfl | (simp; done) | (simp [*]; done)), H', ⟨by have := HK1.out; have := HK2.out; have := HK3.out; omega⟩, ⟨by (try simp only [hl7_2]); (try simp only [hl7_3]); (with_reducible repeat (first | apply Kd.S_alloc | apply Kd.S_drewN | apply Kd.S_drew)); exact Kd.S_mono HQ99.out (fun _ hk => trivial)⟩, ⟨by repeat (first | (with_reducible first | exact HB.out | apply below_alloc | apply pw_below_drewN | apply below_drew1 | refine below_set ?_ GB88.out | refine below_set ?_ GE372.out | refine below_set ?_ GE375.out) | exact HB.out)⟩⟩
                            ·
                             rw [if_neg c48] at H
                             exact absurd H (by simp)
                           ·
                            rw [if_neg c47] at H
                            exact absurd H (by simp)
                          ·
                           rw [if_neg c46] at H
                           exact absurd H (by simp)
                        ·
                         rw [if_neg c42] at H
                         exact absurd H (by simp)
                       ·
                        rw [if_neg c41] at H
                        exact absurd H (by simp)
                      ·
                       rw [if_neg c39] at H
                       exact absurd H (by simp)
                     ·
                      rw [if_neg c38] at H
                      exact absurd H (by simp)
                    ·
                     rw [if_neg c36] at H
                     have c36b0 : decide ((wrap64 (x11_3 * (wrap64 ((wrap64 ((rd_T66 l0 x8_1).f0)) + a2)))) ≤ x53_2) = false := decide_eq_false c36
                     clear c36
                     have H' := Aside0.mk H
                     clear H
                     have p369 : 0 ≤ (x8_1 : Int) := of_decide_eq_true (by first | (with_reducible assumption) | assumption)
                     have q369 : x8_1 < (l0.length : Int) := of_decide_eq_true (by first | (with_reducible assumption) | assumption)
                     obtain ⟨ad369, e369, hx369_0, hx369_1⟩ := at_T66 HR0.out x8_1 p369 q369
                     obtain rfl : ad367 = ad369 := (by injection e369)
                     replace hx369_0 := (HB.out.cell (World.block_lt_of_cell? w _ hx369_0)).trans hx369_0
                     replace hx369_1 := (HB.out.cell (World.block_lt_of_cell? w _ hx369_1)).trans hx369_1
                     replace p369 := eq_true p369
                     replace q369 := eq_true q369
                     go_wp2
                     (try simp only [← hl7_2, ← hl7_3])
                     go_roundg k3
                     case measure => have := HK1.out; have := HK2.out; have := HK3.out; omega
                     case rel => exact ⟨(x7_3), (wrap64 (x53_2 + 1)), (by first | rfl | (simp; done) | (simp [*]; done)), H', ⟨by have := HK1.out; have := HK2.out; have := HK3.out; omega⟩, ⟨by (try simp only [hl7_2]); (try simp only [hl7_3]); (with_reducible repeat (first | apply Kd.S_alloc | apply Kd.S_drewN | apply Kd.S_drew)); exact HO_7.out⟩, ⟨by repeat (first | (with_reducible first | exact HB.out | apply below_alloc | apply pw_below_drewN | apply below_drew1) | exact HB.out)⟩⟩
                   ·
                    rw [if_neg c35] at H
                    have c35b0 : decide (x11_3 ≤ (wrap64 ((rd_T66 l0 x8_1).f1))) = false := decide_eq_false c35
                    clear c35
                    have H' := Aside0.mk H
                    clear H
                    have p369 : 0 ≤ (x8_1 : Int) := of_decide_eq_true (by first | (with_reducible assumption) | assumption)
                    have q369 : x8_1 < (l0.length : Int) := of_decide_eq_true (by first | (with_reducible assumption) | assumption)
                    obtain ⟨ad369, e369, hx369_0, hx369_1⟩ := at_T66 HR0.out x8_1 p369 q369
                    obtain rfl : ad367 = ad369 := (by injection e369)
                    replace hx369_0 := (HB.out.cell (World.block_lt_of_cell? w _ hx369_0)).trans hx369_0
                    replace hx369_1 := (HB.out.cell (World.block_lt_of_cell? w _ hx369_1)).trans hx369_1
                    replace p369 := eq_true p369
                    replace q369 := eq_true q369
                    go_wp2
                    (try simp only [← hl7_2, ← hl7_3])
                    go_roundg k3
                    case measure => have := HK1.out; have := HK2.out; have := HK3.out; omega
                    case rel => exact ⟨(x7_3), (wrap64 (x53_2 + 1)), (by first | rfl | (simp; done) | (simp [*]; done)), H', ⟨by have := HK1.out; have := HK2.out; have := HK3.out; omega⟩, ⟨by (try simp only [hl7_2]); (try simp only [hl7_3]); (with_reducible repeat (first | apply Kd.S_alloc | apply Kd.S_drewN | apply Kd.S_drew)); exact HO_7.out⟩, ⟨by repeat (first | (with_reducible first | exact HB.out | apply below_alloc | apply pw_below_drewN | apply below_drew1) | exact HB.out)⟩⟩
                  ·
                   rw [if_neg c34] at H
                   exact absurd H (by simp)
                 ·
                  rw [if_neg c33] at H
                  exact absurd H (by simp)
              ·
               rw [if_neg c32] at H
               have c32b0 : decide (x53_2 < ((rd_L7 y362 x8_1).length : Int)) = false := decide_eq_false c32
               clear c32
               have H' := Aside0.mk H
               clear H
               go_wp2
               (try simp only [← hl7_2])
               go_roundg k2
               case measure => have := HK1.out; have := HK2.out; omega
               case rel => exact ⟨(x7_2), (wrap64 (x8_1 - 1)), (by first | rfl | (simp; done) | (simp [*]; done)), H', ⟨by have := HK1.out; have := HK2.out; omega⟩, ⟨by (try simp only [hl7_2]); (with_reducible repeat (first | apply Kd.S_alloc | apply Kd.S_drewN | apply Kd.S_drew)); exact HO_7.out⟩, ⟨by repeat (first | (with_reducible first | exact HB.out | apply below_alloc | apply pw_below_drewN | apply below_drew1) | exact HB.out)⟩⟩
           ·
            rw [if_neg c26] at H
            exact absurd H (by simp)
         ·
          rw [if_neg c14] at H
          exact absurd H (by simp)
        ·
         rw [if_neg c13] at H
         exact absurd H (by simp)
       ·
        rw [if_neg c12] at H
        exact absurd H (by simp)
      ·
       rw [if_neg c11] at H
       exact absurd H (by simp)
     ·
      rw [if_neg c9] at H
      have c9b0 : decide (0 ≤ x8_1) = false := decide_eq_false c9
      clear c9
      obtain rfl := Option.some.inj H
      go_wp2
      go_ret
      exact ⟨_, by first | rfl | (simp [errW_none, errW_some] <;> rfl) | (simp only [← hji4]; first | rfl | (simp [errW_none, errW_some] <;> rfl)) | (simp [*, errW_none, errW_some] <;> rfl), by (with_reducible repeat (first | apply Kd.S_alloc | apply Kd.S_drewN | apply Kd.S_drew)); exact HO_7.out, by repeat (first | (with_reducible first | exact HB.out | apply below_alloc | apply pw_below_drewN | apply below_drew1) | exact HB.out)⟩
  ·
   rw [if_neg c6] at H
   exact absurd H (by simp)
 ·
  rw [if_neg c5] at H
  exact absurd H (by simp)
end Go.Proofs.Ytabooaeobpgadaa.Q
