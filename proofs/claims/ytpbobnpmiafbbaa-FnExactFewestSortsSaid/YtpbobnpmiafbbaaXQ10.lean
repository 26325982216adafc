-- By a program of this session's: of the print's words what this claim needs. Lean checks it.
import Derived.Test.YtpbobnpmiafbbaaXQ0
namespace Go.Proofs.Ytpbobnpmiafbbaa.Q
open Go.RowKit Go.Proofs.YtpbobnpmiafbbaaW.PrintWords Go.Proofs.YtpbobnpmiafbbaaW.PrintLast Go.Proofs.YtpbobnpmiafbbaaW.PrintMore
attribute [local go_sem] max2_int min2_int max_two min_two max_three min_three max_four min_four
set_option linter.unusedVariables false
set_option linter.unusedSimpArgs false
mutual
def impl_fillings.l0 : Nat → List (S68) → Int → Int → List (List (S108)) → Int → Option ((List (List (S108))))
 | 0, _, _, _, _, _ => none
 | k + 1, x0, x1, x2, x7, x8 => if x8 ≥ 0 then (if 0 ≤ (wrap64 (x1 + 1)) then (if (wrap64 (x1 + 1) : Int).toNat ≤ 17592186044416 then (if 0 ≤ x8 then (if x8 < (x7.length : Int) then ((some (x7.set (x8 : Int).toNat (List.replicate (wrap64 (x1 + 1) : Int).toNat z108) : List (List (S108)))).bind fun y593 => (if x8 = (x0.length : Int) then (if 0 < ((rd_L9 y593 x8).length : Int) then (impl_fillings.l0 k x0 x1 x2 (y593.set (x8 : Int).toNat ((rd_L9 y593 x8).set (0 : Int).toNat (⟨1, 0⟩ : S108))) (wrap64 (x8 - 1))) else (none)) else (if x8 < (x0.length : Int) then (impl_fillings.l1 k x0 x1 x2 y593 x8 (wrap64 ((wrap64 ((rd_T68 x0 x8).f0)) + x2)) ((rd_L9 y593 x8).length : Int) 0) else (none)))) else (none)) else (none)) else (none)) else (none)) else (some x7)
def impl_fillings.l1 : Nat → List (S68) → Int → Int → List (List (S108)) → Int → Int → Int → Int → Option ((List (List (S108))))
 | 0, _, _, _, _, _, _, _, _ => none
 | k + 1, x0, x1, x2, x7, x8, x9, x52, x53 => if x53 < x52 then (impl_fillings.l2 k x0 x1 x2 x7 x8 x9 x53 0 x52 x53) else (impl_fillings.l0 k x0 x1 x2 x7 (wrap64 (x8 - 1)))
def impl_fillings.l2 : Nat → List (S68) → Int → Int → List (List (S108)) → Int → Int → Int → Int → Int → Int → Option ((List (List (S108))))
 | 0, _, _, _, _, _, _, _, _, _, _ => none
 | k + 1, x0, x1, x2, x7, x8, x9, x10, x11, x52, x53 => if 0 ≤ x8 then (if x8 < (x0.length : Int) then (if x11 ≤ (wrap64 ((rd_T68 x0 x8).f1)) then (if (wrap64 (x11 * x9)) ≤ x10 then (if 0 ≤ (wrap64 (x8 + 1)) then (if (wrap64 (x8 + 1)) < (x7.length : Int) then (if 0 ≤ (wrap64 (x10 - (wrap64 (x11 * x9)))) then (if (wrap64 (x10 - (wrap64 (x11 * x9)))) < ((rd_L9 x7 (wrap64 (x8 + 1))).length : Int) then (if ((rd_T108 (rd_L9 x7 (wrap64 (x8 + 1))) (wrap64 (x10 - (wrap64 (x11 * x9))))).f0) = 0 then (impl_fillings.l2 k x0 x1 x2 x7 x8 x9 x10 (wrap64 (x11 + 1)) x52 x53) else (if x8 < (x7.length : Int) then (if 0 ≤ x10 then (if x10 < ((rd_L9 x7 x8).length : Int) then (if ((rd_T108 (rd_L9 x7 x8) x10).f0) = 0 then ((some (x7.set (x8 : Int).toNat ((rd_L9 x7 x8).set (x10 : Int).toNat (⟨(rd_T108 (rd_L9 x7 x8) x10).f0, wrap64 (((rd_T108 (rd_L9 x7 (wrap64 (x8 + 1))) (wrap64 (x10 - (wrap64 (x11 * x9))))).f1) + x11)⟩ : S108)) : List (List (S108)))).bind fun y610 => (if x10 < ((rd_L9 y610 x8).length : Int) then (impl_fillings.l2 k x0 x1 x2 (y610.set (x8 : Int).toNat ((rd_L9 y610 x8).set (x10 : Int).toNat (⟨wrap64 (((rd_T108 (rd_L9 y610 x8) x10).f0) + ((rd_T108 (rd_L9 x7 (wrap64 (x8 + 1))) (wrap64 (x10 - (wrap64 (x11 * x9))))).f0)), (rd_T108 (rd_L9 y610 x8) x10).f1⟩ : S108))) x8 x9 x10 (wrap64 (x11 + 1)) x52 x53) else (none))) else (if (wrap64 (((rd_T108 (rd_L9 x7 (wrap64 (x8 + 1))) (wrap64 (x10 - (wrap64 (x11 * x9))))).f1) + x11)) < ((rd_T108 (rd_L9 x7 x8) x10).f1) then ((some (x7.set (x8 : Int).toNat ((rd_L9 x7 x8).set (x10 : Int).toNat (⟨(rd_T108 (rd_L9 x7 x8) x10).f0, wrap64 (((rd_T108 (rd_L9 x7 (wrap64 (x8 + 1))) (wrap64 (x10 - (wrap64 (x11 * x9))))).f1) + x11)⟩ : S108)) : List (List (S108)))).bind fun y619 => (if x10 < ((rd_L9 y619 x8).length : Int) then (impl_fillings.l2 k x0 x1 x2 (y619.set (x8 : Int).toNat ((rd_L9 y619 x8).set (x10 : Int).toNat (⟨wrap64 (((rd_T108 (rd_L9 y619 x8) x10).f0) + ((rd_T108 (rd_L9 x7 (wrap64 (x8 + 1))) (wrap64 (x10 - (wrap64 (x11 * x9))))).f0)), (rd_T108 (rd_L9 y619 x8) x10).f1⟩ : S108))) x8 x9 x10 (wrap64 (x11 + 1)) x52 x53) else (none))) else (impl_fillings.l2 k x0 x1 x2 (x7.set (x8 : Int).toNat ((rd_L9 x7 x8).set (x10 : Int).toNat (⟨wrap64 (((rd_T108 (rd_L9 x7 x8) x10).f0) + ((rd_T108 (rd_L9 x7 (wrap64 (x8 + 1))) (wrap64 (x10 - (wrap64 (x11 * x9))))).f0)), (rd_T108 (rd_L9 x7 x8) x10).f1⟩ : S108))) x8 x9 x10 (wrap64 (x11 + 1)) x52 x53))) else (none)) else (none)) else (none))) else (none)) else (none)) else (none)) else (none)) else (impl_fillings.l1 k x0 x1 x2 x7 x8 x9 x52 (wrap64 (x53 + 1)))) else (impl_fillings.l1 k x0 x1 x2 x7 x8 x9 x52 (wrap64 (x53 + 1)))) else (none)) else (none)
end
def impl_fillings.f (k : Nat) (l0 : List (S68)) (a1 : Int) (a2 : Int) : Option ((List (List (S108)))) := if 0 ≤ (wrap64 ((l0.length : Int) + 1)) then (if (wrap64 ((l0.length : Int) + 1) : Int).toNat ≤ 11728124029610 then (impl_fillings.l0 k l0 a1 a2 (List.replicate (wrap64 ((l0.length : Int) + 1) : Int).toNat []) (l0.length : Int)) else (none)) else (none)
theorem impl_fillings.mono_l : ∀ k, (∀ y0 y1 y2 y3 y4, LeO (impl_fillings.l0 k y0 y1 y2 y3 y4) (impl_fillings.l0 (k + 1) y0 y1 y2 y3 y4)) ∧ (∀ y0 y1 y2 y3 y4 y5 y6 y7, LeO (impl_fillings.l1 k y0 y1 y2 y3 y4 y5 y6 y7) (impl_fillings.l1 (k + 1) y0 y1 y2 y3 y4 y5 y6 y7)) ∧ (∀ y0 y1 y2 y3 y4 y5 y6 y7 y8 y9, LeO (impl_fillings.l2 k y0 y1 y2 y3 y4 y5 y6 y7 y8 y9) (impl_fillings.l2 (k + 1) y0 y1 y2 y3 y4 y5 y6 y7 y8 y9))
 | 0 => ⟨fun _ _ _ _ _ r h => by simp [impl_fillings.l0] at h, fun _ _ _ _ _ _ _ _ r h => by simp [impl_fillings.l1] at h, fun _ _ _ _ _ _ _ _ _ _ r h => by simp [impl_fillings.l2] at h⟩
 | k + 1 => by
  obtain ⟨ih0, ih1, ih2⟩ := impl_fillings.mono_l k; refine ⟨?_, ?_, ?_⟩
  ·
   intro y0 y1 y2 y3 y4
   unfold impl_fillings.l0
   repeat' first
   | (with_reducible exact ih0 _ _ _ _ _)
   | (with_reducible exact ih1 _ _ _ _ _ _ _ _)
   | (with_reducible exact ih2 _ _ _ _ _ _ _ _ _ _)
   | (with_reducible exact LeO.refl _)
   | (with_reducible exact LeO.none _)
   | (with_reducible refine LeO.ite ?_ ?_)
   | (with_reducible refine LeO.bind ?_ (fun _ => ?_))
   | exact ih0 _ _ _ _ _
   | exact ih1 _ _ _ _ _ _ _ _
   | exact ih2 _ _ _ _ _ _ _ _ _ _
   | exact LeO.none _
   | refine LeO.ite ?_ ?_
   | refine LeO.bind ?_ (fun _ => ?_)
  ·
   intro y0 y1 y2 y3 y4 y5 y6 y7
   unfold impl_fillings.l1
   repeat' first
   | (with_reducible exact ih0 _ _ _ _ _)
   | (with_reducible exact ih1 _ _ _ _ _ _ _ _)
   | (with_reducible exact ih2 _ _ _ _ _ _ _ _ _ _)
   | (with_reducible exact LeO.refl _)
   | (with_reducible exact LeO.none _)
   | (with_reducible refine LeO.ite ?_ ?_)
   | (with_reducible refine LeO.bind ?_ (fun _ => ?_))
   | exact ih0 _ _ _ _ _
   | exact ih1 _ _ _ _ _ _ _ _
   | exact ih2 _ _ _ _ _ _ _ _ _ _
   | exact LeO.none _
   | refine LeO.ite ?_ ?_
   | refine LeO.bind ?_ (fun _ => ?_)
  ·
   intro y0 y1 y2 y3 y4 y5 y6 y7 y8 y9
   unfold impl_fillings.l2
   repeat' first
   | (with_reducible exact ih0 _ _ _ _ _)
   | (with_reducible exact ih1 _ _ _ _ _ _ _ _)
   | (with_reducible exact ih2 _ _ _ _ _ _ _ _ _ _)
   | (with_reducible exact LeO.refl _)
   | (with_reducible exact LeO.none _)
   | (with_reducible refine LeO.ite ?_ ?_)
   | (with_reducible refine LeO.bind ?_ (fun _ => ?_))
   | exact ih0 _ _ _ _ _
   | exact ih1 _ _ _ _ _ _ _ _
   | exact ih2 _ _ _ _ _ _ _ _ _ _
   | exact LeO.none _
   | refine LeO.ite ?_ ?_
   | refine LeO.bind ?_ (fun _ => ?_)
theorem impl_fillings.mono : ∀ a0 a1 a2 k, LeO (impl_fillings.f k a0 a1 a2) (impl_fillings.f (k + 1) a0 a1 a2) := by
 intro a0 a1 a2 k; obtain ⟨ih0, ih1, ih2⟩ := impl_fillings.mono_l k
 unfold impl_fillings.f
 repeat' first
   | (with_reducible exact ih0 _ _ _ _ _)
   | (with_reducible exact ih1 _ _ _ _ _ _ _ _)
   | (with_reducible exact ih2 _ _ _ _ _ _ _ _ _ _)
   | (with_reducible exact LeO.refl _)
   | (with_reducible exact LeO.none _)
   | (with_reducible refine LeO.ite ?_ ?_)
   | (with_reducible refine LeO.bind ?_ (fun _ => ?_))
   | exact ih0 _ _ _ _ _
   | exact ih1 _ _ _ _ _ _ _ _
   | exact ih2 _ _ _ _ _ _ _ _ _ _
   | exact LeO.none _
   | refine LeO.ite ?_ ?_
   | refine LeO.bind ?_ (fun _ => ?_)
def impl_fillings.T19 : Bool × List (List Nat × List Nat) := (true, [([], []), ([], []), ([0, 1], [0, 1]), ([2], [2]), ([], []), ([], []), ([5], [5]), ([], []), ([6, 7], [6, 7]), ([3, 4, 0, 1, 2, 3, 4, 5, 6, 7, 8], [3, 4]), ([9, 0, 1, 2, 3, 4, 5, 6, 7, 8], [9]), ([10, 8, 0, 1, 2, 3, 4, 5, 6, 7, 8], [8, 10])])
def impl_fillings.B19 : List Nat := [0, 0, 3, 7, 0, 0, 32, 0, 224, 511, 1023, 2047]
theorem impl_fillings.tab19 : rtab .any (opsOf Try.f94 19) = impl_fillings.T19 := by kernel_rfl
theorem impl_fillings.bits19 : waitsOk impl_fillings.T19.2 impl_fillings.B19 = true := by kernel_rfl
def impl_fillings.T20 : Bool × List (List Nat × List Nat) := (true, [([], []), ([], []), ([0, 1], [0, 1]), ([2], [2]), ([], []), ([3, 4], [3, 4]), ([5], [5]), ([6], [6]), ([], []), ([8], [8]), ([7, 9], [7, 9]), ([3, 4, 0, 1, 2, 3, 4, 5, 6, 7, 8, 9, 10], [3, 4]), ([11, 0, 1, 2, 3, 4, 5, 6, 7, 8, 9, 10], [11]), ([12, 10, 0, 1, 2, 3, 4, 5, 6, 7, 8, 9, 10], [10, 12])])
def impl_fillings.B20 : List Nat := [0, 0, 3, 7, 0, 31, 63, 127, 0, 256, 1023, 2047, 4095, 8191]
theorem impl_fillings.tab20 : rtab .any (opsOf Try.f94 20) = impl_fillings.T20 := by kernel_rfl
theorem impl_fillings.bits20 : waitsOk impl_fillings.T20.2 impl_fillings.B20 = true := by kernel_rfl
set_option maxHeartbeats 8000000 in
set_option maxRecDepth 100000 in
theorem impl_fillings.calls (k : Nat) (A0 : Option Addr) (c0 : Nat) (l0 : List (S68)) (a1 : Int) (a2 : Int) (r : List (List (S108))) (w : World) (hr0 : Kd.C k68 w A0 l0.length l0) (hc0 : l0.length ≤ c0) (h : impl_fillings.f k l0 a1 a2 = some r) :
  Calls Try.prog 94 #[.slice A0 l0.length c0, .int .i64 a1, .int .i64 a2] w fun e w' => ∃ v0_ : Value, e = .returned (v0_) ∧ Kd.S (Kd.slice 108 k108) 109 w' w.heap.size (fun _ => True) v0_ r ∧ Below w.heap.size w w' := by
 have hu108 := Try.underlying108; have HR0 := am_ hr0; have HC0 := am_ hc0; clear hr0 hc0; have HB := am_ (Below.refl w.heap.size w); have H : (if 0 ≤ (wrap64 ((l0.length : Int) + 1)) then (if (wrap64 ((l0.length : Int) + 1) : Int).toNat ≤ 11728124029610 then (impl_fillings.l0 k l0 a1 a2 (List.replicate (wrap64 ((l0.length : Int) + 1) : Int).toNat []) (l0.length : Int)) else (none)) else (none)) = some r := h; clear h; obtain ⟨ji4, hji4⟩ : ∃ j_ : Int, (wrap64 ((l0.length : Int) + 1)) = j_ := ⟨_, rfl⟩
 replace H : (if 0 ≤ (ji4) then (if (ji4 : Int).toNat ≤ 11728124029610 then (impl_fillings.l0 k l0 a1 a2 (List.replicate (ji4 : Int).toNat []) (l0.length : Int)) else (none)) else (none)) = some r := by first | (rw [hji4] at H; exact H) | (simp only [hji4] at H ⊢; exact H)
 have hji4w : (IntKind.i64.wrap ((l0.length : Int) + 1)) = ji4 := (i64_w _).trans hji4
 by_cases c5 : 0 ≤ (ji4)
 ·
  rw [if_pos c5] at H; have c5b0 := eq_true c5; have c5b1 : decide (0 ≤ (ji4)) = true := decide_eq_true c5; clear c5
  by_cases c6 : (ji4 : Int).toNat ≤ 11728124029610
  ·
   rw [if_pos c6] at H; have c6b0 := eq_true c6; have c6b1 : decide ((ji4 : Int).toNat ≤ 11728124029610) = true := decide_eq_true c6; clear c6; obtain ⟨y587, hy587⟩ : ∃ y_ : List (List (S108)), y_ = (List.replicate (ji4 : Int).toNat []) := ⟨_, rfl⟩
   replace H : (impl_fillings.l0 k l0 a1 a2 y587 (l0.length : Int)) = some r := by first | (rw [hy587]; with_reducible exact H) | (have H2_ := (Option.bind_some _ _).symm.trans H; rw [hy587]; with_reducible exact H2_) | (have H2_ := (Option.bind_some _ _).symm.trans H; with_reducible exact H2_) | with_reducible exact H | (rw [hy587]; exact H) | exact H
   have Ny587 := am_ hy587; clear hy587; have H' := am_ H; clear H
   go_enter Try.func94, Try.ntmps94
   go_wp2_with (first | ((with_reducible refine gate_dst (N := 17) rfl ?_); refine Kd.S_make (Kd.slice 108 k108) _ 109 rfl (N := 17) rfl 105 _ _ rfl ji4 rfl rfl Try.underlying105 (.slice none 0 0) 24 info109 rfl (by decide) (by omega) [] (ok := fun _ => True) (okp := fun _ => True) ⟨_, rfl, Kd.R_nil _ _ _ _ _⟩ (fun _ hk => hk) trivial (od_ (by first | (with_reducible assumption) | assumption)) (Nat.le_trans (Nat.mul_le_mul_right _ (od_ (by first | (with_reducible assumption) | assumption) : ji4.toNat ≤ 11728124029610)) (by omega)) (Below.refl _ _) (Nat.le_refl _) ?_; intro v588 w7 ho8 hb hg_ hnew_; clear hg_ hnew_; (first | rw [← Ny587.out] at ho8 | (simp only [Int.reduceToNat] at ho8; rw [← Ny587.out] at ho8)); have n0_ := am_ (Kd.S_lower ho8 (below_size (by repeat (first | (with_reducible first | exact HB.out | apply bA_ | apply bN_ | apply bD_) | exact HB.out)))); have n1_ := am_ (bT_ (by repeat (first | (with_reducible first | exact HB.out | apply bA_ | apply bN_ | apply bD_) | exact HB.out)) hb); clear HB; have HO589 := n0_; have HB := n1_; clear n0_ n1_; clear hb ho8))
   go_loopg [8] k (fun kq v8 w' => ∃ (x7_1 : List (List (S108))) (x8_1 : Int), v8 = .int .i64 x8_1 ∧ Aside0 (impl_fillings.l0 kq l0 a1 a2 x7_1 x8_1 = some r) ∧ Aside0 (kq ≤ k) ∧ Aside0 (Kd.S (Kd.slice 108 k108) 109 w' w.heap.size (fun _ => True) v588 x7_1) ∧ Aside0 (Below w.heap.size w w'))
   case atStart => exact ⟨(y587), ((l0.length : Int)), (by first | rfl | (simp; done) | (simp [*]; done)), H', ⟨Nat.le_refl _⟩, ⟨by (with_reducible repeat (first | apply Kd.S_alloc | apply Kd.S_drewN | apply Kd.S_drew)); exact HO589.out⟩, ⟨by repeat (first | (with_reducible first | exact HB.out | apply bA_ | apply bN_ | apply bD_) | exact HB.out)⟩⟩
   case round =>
    clear H'; (try clear p2); (try clear c5); (try clear c5b0); (try clear c5b1); (try clear c6); (try clear c6b0); (try clear c6b1); (try clear p6); obtain ⟨x7_1, x8_1, rfl, HA, HK1, HO_7, HB⟩ := hrel
    cases gk with
    | zero => exact absurd HA.out (by simp [impl_fillings.l0])
    | succ k1 =>
     have H := HA.out; clear HA; simp only [impl_fillings.l0] at H
     by_cases c9 : x8_1 ≥ 0
     ·
      rw [if_pos c9] at H; have c9b0 : decide (0 ≤ x8_1) = true := decide_eq_true c9; clear c9; obtain ⟨ji10, hji10⟩ : ∃ j_ : Int, (wrap64 (a1 + 1)) = j_ := ⟨_, rfl⟩
      replace H : (if 0 ≤ (ji10) then (if (ji10 : Int).toNat ≤ 17592186044416 then (if 0 ≤ x8_1 then (if x8_1 < (x7_1.length : Int) then ((some (x7_1.set (x8_1 : Int).toNat (List.replicate (ji10 : Int).toNat z108) : List (List (S108)))).bind fun y593 => (if x8_1 = (l0.length : Int) then (if 0 < ((rd_L9 y593 x8_1).length : Int) then (impl_fillings.l0 k1 l0 a1 a2 (y593.set (x8_1 : Int).toNat ((rd_L9 y593 x8_1).set (0 : Int).toNat (⟨1, 0⟩ : S108))) (wrap64 (x8_1 - 1))) else (none)) else (if x8_1 < (l0.length : Int) then (impl_fillings.l1 k1 l0 a1 a2 y593 x8_1 (wrap64 ((wrap64 ((rd_T68 l0 x8_1).f0)) + a2)) ((rd_L9 y593 x8_1).length : Int) 0) else (none)))) else (none)) else (none)) else (none)) else (none)) = some r := by first | (rw [hji10] at H; exact H) | (simp only [hji10] at H ⊢; exact H)
      have hji10w : (IntKind.i64.wrap (a1 + 1)) = ji10 := (i64_w _).trans hji10
      by_cases c11 : 0 ≤ (ji10)
      ·
       rw [if_pos c11] at H; have c11b0 := eq_true c11; have c11b1 : decide (0 ≤ (ji10)) = true := decide_eq_true c11; clear c11
       by_cases c12 : (ji10 : Int).toNat ≤ 17592186044416
       ·
        rw [if_pos c12] at H; have c12b0 := eq_true c12; have c12b1 : decide ((ji10 : Int).toNat ≤ 17592186044416) = true := decide_eq_true c12; clear c12; obtain ⟨y590, hy590⟩ : ∃ y_ : List (S108), y_ = (List.replicate (ji10 : Int).toNat z108) := ⟨_, rfl⟩
        replace H : (if 0 ≤ x8_1 then (if x8_1 < (x7_1.length : Int) then ((some (x7_1.set (x8_1 : Int).toNat y590 : List (List (S108)))).bind fun y593 => (if x8_1 = (l0.length : Int) then (if 0 < ((rd_L9 y593 x8_1).length : Int) then (impl_fillings.l0 k1 l0 a1 a2 (y593.set (x8_1 : Int).toNat ((rd_L9 y593 x8_1).set (0 : Int).toNat (⟨1, 0⟩ : S108))) (wrap64 (x8_1 - 1))) else (none)) else (if x8_1 < (l0.length : Int) then (impl_fillings.l1 k1 l0 a1 a2 y593 x8_1 (wrap64 ((wrap64 ((rd_T68 l0 x8_1).f0)) + a2)) ((rd_L9 y593 x8_1).length : Int) 0) else (none)))) else (none)) else (none)) = some r := by first | (rw [hy590]; with_reducible exact H) | (have H2_ := (Option.bind_some _ _).symm.trans H; rw [hy590]; with_reducible exact H2_) | (have H2_ := (Option.bind_some _ _).symm.trans H; with_reducible exact H2_) | with_reducible exact H | (rw [hy590]; exact H) | exact H
        have Ny590 := am_ hy590; clear hy590
        by_cases c13 : 0 ≤ x8_1
        ·
         rw [if_pos c13] at H; have c13b0 : decide (0 ≤ x8_1) = true := decide_eq_true c13; clear c13
         by_cases c14 : x8_1 < (x7_1.length : Int)
         ·
          rw [if_pos c14] at H; have c14b0 : decide (x8_1 < (x7_1.length : Int)) = true := decide_eq_true c14; clear c14; obtain ⟨y593, hy593⟩ : ∃ y_ : List (List (S108)), y_ = (x7_1.set (x8_1 : Int).toNat y590) := ⟨_, rfl⟩
          replace H : (if x8_1 = (l0.length : Int) then (if 0 < ((rd_L9 y593 x8_1).length : Int) then (impl_fillings.l0 k1 l0 a1 a2 (y593.set (x8_1 : Int).toNat ((rd_L9 y593 x8_1).set (0 : Int).toNat (⟨1, 0⟩ : S108))) (wrap64 (x8_1 - 1))) else (none)) else (if x8_1 < (l0.length : Int) then (impl_fillings.l1 k1 l0 a1 a2 y593 x8_1 (wrap64 ((wrap64 ((rd_T68 l0 x8_1).f0)) + a2)) ((rd_L9 y593 x8_1).length : Int) 0) else (none))) = some r := by first | (rw [hy593]; with_reducible exact H) | (have H2_ := (Option.bind_some _ _).symm.trans H; rw [hy593]; with_reducible exact H2_) | (have H2_ := (Option.bind_some _ _).symm.trans H; with_reducible exact H2_) | with_reducible exact H | (rw [hy593]; exact H) | exact H
          have Ny593 := am_ hy593; clear hy593
          by_cases c16 : x8_1 = (l0.length : Int)
          ·
           rw [if_pos c16] at H; have c16b0 : (x8_1 == (l0.length : Int)) = true := beq_iff_eq.mpr c16; have c16b1 : (x8_1 != (l0.length : Int)) = false := bne_eq_false_iff_eq.mpr c16; clear c16
           by_cases c17 : 0 < ((rd_L9 y593 x8_1).length : Int)
           ·
            rw [if_pos c17] at H; have c17b0 : decide (0 < ((rd_L9 y593 x8_1).length : Int)) = true := decide_eq_true c17; have c17b1 : decide (0 < (rd_L9 y593 x8_1).length) = true := decide_eq_true (by omega); clear c17; obtain ⟨y595, hy595⟩ : ∃ y_ : List (S108), y_ = ((rd_L9 y593 x8_1).set (0 : Int).toNat (⟨1, 0⟩ : S108)) := ⟨_, rfl⟩
            replace H : (impl_fillings.l0 k1 l0 a1 a2 (y593.set (x8_1 : Int).toNat y595) (wrap64 (x8_1 - 1))) = some r := by first | (rw [hy595]; with_reducible exact H) | (have H2_ := (Option.bind_some _ _).symm.trans H; rw [hy595]; with_reducible exact H2_) | (have H2_ := (Option.bind_some _ _).symm.trans H; with_reducible exact H2_) | with_reducible exact H | (rw [hy595]; exact H) | exact H
            have Ny595 := am_ hy595; clear hy595; obtain ⟨y597, hy597⟩ : ∃ y_ : List (List (S108)), y_ = (y593.set (x8_1 : Int).toNat y595) := ⟨_, rfl⟩
            replace H : (impl_fillings.l0 k1 l0 a1 a2 y597 (wrap64 (x8_1 - 1))) = some r := by first | (rw [hy597]; with_reducible exact H) | (have H2_ := (Option.bind_some _ _).symm.trans H; rw [hy597]; with_reducible exact H2_) | (have H2_ := (Option.bind_some _ _).symm.trans H; with_reducible exact H2_) | with_reducible exact H | (rw [hy597]; exact H) | exact H
            have Ny597 := am_ hy597; clear hy597; have H' := am_ H; clear H
            go_wp2_with (first | ((with_reducible refine gate_dst (N := 28) rfl ?_); refine Kd.R_make k108 _ 108 rfl (N := 28) rfl 109 _ _ rfl ji10 rfl rfl Try.underlying109 (.agg #[(.int .i64 0), (.int .i64 0)]) 16 info108 rfl (by decide) (by omega) z108 (ok := fun _ => True) (okp := fun _ => True) (k108_mkM _ _ _ z108 ) (fun _ hk => hk) trivial (od_ (by first | (with_reducible assumption) | assumption)) (Nat.le_trans (Nat.mul_le_mul_right _ (od_ (by first | (with_reducible assumption) | assumption) : ji10.toNat ≤ 17592186044416)) (by omega)) (Below.refl _ _) (Nat.le_refl _) ?_; intro v591 w19 ho20 hb hg_ hnew_; clear hg_ hnew_; (first | rw [← Ny590.out] at ho20 | (simp only [Int.reduceToNat] at ho20; rw [← Ny590.out] at ho20)); have n0_ := am_ (Kd.S_elder' (by (with_reducible repeat (first | apply Kd.S_alloc | apply Kd.S_drewN | apply Kd.S_drew)); exact HO_7.out) (Kd.R_base ho20) hb); have n1_ := am_ (Kd.R_lower ho20 (below_size (by repeat (first | (with_reducible first | exact HB.out | apply bA_ | apply bN_ | apply bD_) | exact HB.out)))); have n2_ := am_ (bT_ (by repeat (first | (with_reducible first | exact HB.out | apply bA_ | apply bN_ | apply bD_) | exact HB.out)) hb); clear HO_7; clear HB; have HO_7 := n0_; have HO592 := n1_; have HB := n2_; clear n0_ n1_ n2_; clear hb ho20; have p15 : 0 ≤ (x8_1 : Int) := od_ (by first | (with_reducible assumption) | assumption); have q15 : (x8_1 : Int) < ((x7_1.length : Int) : Int) := od_ (by first | (with_reducible assumption) | assumption); obtain ⟨go15, co15, eo15, gb15, gl15, cl15, HG15⟩ := Kd.S_form HO_7.out (by omega); (first | cases eo15 | (injection eo15 with ea_ en_ ec_; (first | subst ea_ | (injection ea_ with ea_; subst ea_)); subst ec_; clear en_)); have GB15 := am_ gb15; have GG15 := am_ HG15; clear gb15 gl15 HG15; obtain ⟨_, ce15, hcl15, hM15, hcc15, hfr15, _, _⟩ := Kd.S_elem HO_7.out [] (x8_1 : Int) p15 q15; obtain ⟨ve15_0, rfl, ge15_0⟩ := hM15; have hx15_0 := hcc15 0 _ rfl; have hf15_0 := hfr15 0; (try simp only [show ((Kd.slice 108 k108)).sz = 1 from rfl, Nat.mul_one, Nat.add_zero] at hx15_0); (try simp only [show ((Kd.slice 108 k108)).sz = 1 from rfl, Nat.mul_one, Nat.add_zero] at hf15_0); clear hcl15 hcc15 hfr15; (try clear hM15); replace p15 := eq_true p15; replace q15 := eq_true q15; obtain ⟨Ao21, co21, eo21⟩ := Kd.R_slice HO592.out; subst eo21; have n_ := am_ (Kd.S_mono (ok' := (fun k_ => some k_ ≠ (.slice Ao21 y590.length co21 : Value).ownBlock)) HO_7.out (fun k_ hk => hk.2)); clear HO_7; have HO_7 := n_; clear n_; have HX22 := am_ (show Kd.S (Kd.slice 108 k108) 109 w19 w.heap.size (fun k_ => ((fun _ => True)) k_ ∧ ¬ ((fun k_ => some k_ = (.slice Ao21 y590.length co21 : Value).ownBlock)) k_) (.slice (some ⟨go15, 0, none⟩) x7_1.length co15) x7_1 from (by (with_reducible repeat (first | apply Kd.S_alloc | apply Kd.S_drewN | apply Kd.S_drew)); exact Kd.S_mono HO_7.out (fun k_ hk => ⟨trivial, fun e_ => hk e_⟩))); obtain ⟨oki22, ce22, hcl22, hM22, hcc22, hfr22, hoki22, hH22⟩ := Kd.S_elem HX22.out [] (x8_1 : Int) (od_ (by first | (with_reducible assumption) | assumption)) (by have h_ : (x8_1 : Int) < ((x7_1.length : Int) : Int) := od_ (by first | (with_reducible assumption) | assumption); first | exact h_ | (have e_ := (Kd.S_reads' HO_7.out).1; omega) | simpa using h_); obtain ⟨ve22_0, rfl, ge22_0⟩ := hM22; have HP22 := Kd.S_seg hH22 (od_ (by first | (with_reducible assumption) | assumption)) (by have h_ : (x8_1 : Int) < ((x7_1.length : Int) : Int) := od_ (by first | (with_reducible assumption) | assumption); first | exact h_ | (have e_ := (Kd.S_reads' HO_7.out).1; omega) | simpa using h_) (seg := [.slice Ao21 y590.length co21]) (j := 0) (show 1 ≤ 1 from by decide) (x' := y590) (Kd.M_row (Kd.R_mono (Kd.R_tight rfl (Kd.R_mono (ok' := fun k_ => ((fun _ => True)) k_ ∧ k_ ≠ go15) (Kd.R_apart' (HO592.out) (Kd.S_typed HO_7.out) (by decide)) (fun k_ hk => ⟨trivial, fun e_ => (hk.2) (by rw [e_]; rfl)⟩))) (fun _ h_ => Or.inr (h_)))) (fun _ hk => hk) (fun k_ hk_ => ((Kd.R_mono (ok' := fun k_ => ((fun _ => True)) k_ ∧ k_ ≠ go15) (Kd.R_apart' (HO592.out) (Kd.S_typed HO_7.out) (by decide)) (fun k_ hk => ⟨trivial, fun e_ => (hk.2) (by rw [e_]; rfl)⟩))).1 k_ hk_.symm); have hx22_0 := hcc22 0 _ rfl; (try simp only [show ((Kd.slice 108 k108)).sz = 1 from rfl, Nat.mul_one, Nat.add_zero] at hx22_0); have hf22_0 := hfr22 0; (try simp only [show ((Kd.slice 108 k108)).sz = 1 from rfl, Nat.mul_one, Nat.add_zero] at hf22_0); clear hcl22 hcc22 hfr22; (try clear hM22); clear hoki22 hH22; (try simp only [show ((Kd.slice 108 k108)).sz = 1 from rfl, Nat.mul_one, Nat.add_zero] at HP22)) | ((with_reducible refine gate_store (t := 109) (p := 29) rfl ?_); refine store_event (t := 109) (p := 29) (v := ?vo_w23) (w1 := (w19.setCell ⟨go15, (x8_1 : Int).toNat, none⟩ (.slice Ao21 y590.length co21))) ?hg ?ho ?hn ?hr ?_; (case ho => rfl); (case hg => rfl); (case hn => rfl); (case hr => first | (go_simp; done) | (go_simp; rfl)); intro w23 hw; have hg : w19.grownBy w23 (some go15) := (by rw [hw]; exact HP22.2); have hp_ : Kd.S (Kd.slice 108 k108) 109 w23 w.heap.size (fun _ => True) (.slice (some ⟨go15, 0, none⟩) x7_1.length co15) y593 := (by rw [hw, Ny593.out]; exact HP22.1); clear HP22; have n0_ := am_ (hp_); have n1_ := am_ ((by rw [hw]; exact bS_ (HB.out) GB15.out : Below w.heap.size w w23)); clear HO_7; clear HB; clear HO592; have HO_7 := n0_; have HB := n1_; clear n0_ n1_; clear hg hw hp_; have p594 : 0 ≤ (x8_1 : Int) := od_ (by first | (with_reducible assumption) | assumption); have q594 : x8_1 < (y593.length : Int) := (by have h_ : (x8_1 : Int) < ((x7_1.length : Int) : Int) := od_ (by first | (with_reducible assumption) | assumption); first | (have e_ := (Kd.S_reads' HO_7.out).1; omega) | simpa only [Ny593.out, List.length_set] using h_); have ql594 : ((x8_1 : Int) < ((x7_1.length : Int) : Int)) = True := eq_true (od_ (by first | (with_reducible assumption) | assumption)); obtain ⟨ad594, A594_0, c594_0, e594, hx594_0, hl594_0, hi594_0⟩ := at_L9 (Kd.S_reads' HO_7.out).2.2 x8_1 p594 q594; obtain rfl : (⟨go15, 0, none⟩ : Addr) = ad594 := (by injection e594); obtain ⟨ce594, hce594, hMe594, hcc594⟩ := Kd.S_get HO_7.out [] x8_1 p594 (by first | exact q594 | exact od_ (by first | (with_reducible assumption) | assumption) | (have e_ := (Kd.S_reads' HO_7.out).1; omega)); obtain ⟨ve594_0, rfl, ge594_0⟩ := hMe594; have hv594_0 := hcc594 0 _ rfl; rw [Nat.add_zero, show ((Kd.slice 108 k108)).sz = 1 from rfl, Nat.mul_one] at hv594_0; replace hv594_0 := Option.some.inj (hv594_0.symm.trans hx594_0); rw [hv594_0] at ge594_0; have HL594_0 := am_ (show Kd.R k108 108 _ _ _ _ (rd_L9 y593 x8_1) from ge594_0); clear hv594_0 ge594_0; have HX594_0 := am_ hx594_0; clear hcc594 hce594; (first | simp only [add_plain] at hx594_0 | simp only [add_at] at hx594_0 | simp only [Addr.add, Nat.zero_add] at hx594_0 | skip); have HR594_0 := am_ hi594_0; have HC594_0 := am_ hl594_0; clear hi594_0 hl594_0; replace p594 := eq_true p594; replace q594 := eq_true q594; have p18 : 0 ≤ (0 : Int) := (by omega); have q18 : (0 : Int) < (((rd_L9 y593 x8_1).length : Int) : Int) := od_ (by first | (with_reducible assumption) | assumption); have qi18 : (0 < (rd_L9 y593 x8_1).length) = True := eq_true (by omega); obtain ⟨go18, co18, eo18, gb18, gl18, cl18, HG18⟩ := Kd.R_form HL594_0.out (by omega); (first | cases eo18 | (injection eo18 with ea_ en_ ec_; (first | subst ea_ | (injection ea_ with ea_; subst ea_)); subst ec_; clear en_)); have GB18 := am_ gb18; have GG18 := am_ HG18; clear gb18 gl18 HG18; obtain ⟨ce18, hcl18, hM18, hcc18, hfr18⟩ := Kd.R_elem HL594_0.out z108 (0 : Int) p18 q18; obtain rfl := k108_openM hM18; have hx18_0 : w23.cell? ⟨go18, (0 : Int).toNat * 2, none⟩ = some (.int .i64 ((rd_T108 (rd_L9 y593 x8_1) 0).f0)) := hcc18 0 _ rfl; have hx18_1 : w23.cell? ⟨go18, (0 : Int).toNat * 2 + 1, none⟩ = some (.int .i64 ((rd_T108 (rd_L9 y593 x8_1) 0).f1)) := hcc18 1 _ rfl; have hf18_0 : w23.frozen? ⟨go18, (0 : Int).toNat * 2, none⟩ = false := hfr18 0; have hf18_1 : w23.frozen? ⟨go18, (0 : Int).toNat * 2 + 1, none⟩ = false := hfr18 1; clear hcl18 hcc18 hfr18; (try clear hM18); (try rw [show ((0 : Int)).toNat = 0 from rfl] at hx18_0); (try simp only [Nat.reduceMul, Nat.zero_mul, Nat.zero_add, Nat.reduceAdd] at hx18_0); (try rw [show ((0 : Int)).toNat = 0 from rfl] at hf18_0); (try simp only [Nat.reduceMul, Nat.zero_mul, Nat.zero_add, Nat.reduceAdd] at hf18_0); (try rw [show ((0 : Int)).toNat = 0 from rfl] at hx18_1); (try simp only [Nat.reduceMul, Nat.zero_mul, Nat.zero_add, Nat.reduceAdd] at hx18_1); (try rw [show ((0 : Int)).toNat = 0 from rfl] at hf18_1); (try simp only [Nat.reduceMul, Nat.zero_mul, Nat.zero_add, Nat.reduceAdd] at hf18_1); replace p18 := eq_true p18; replace q18 := eq_true q18; have hq24 : (x8_1 : Int) < (y593.length : Int) := (by have h_ : (x8_1 : Int) < ((x7_1.length : Int) : Int) := od_ (by first | (with_reducible assumption) | assumption); first | exact h_ | (have e_ := (Kd.S_reads' HO_7.out).1; omega) | simpa only [Ny593.out, List.length_set] using h_); obtain ⟨oki24, ce24, hcl24, hM24, hcc24, hok24, hbk24⟩ := Kd.S_borrow HO_7.out [] (x8_1 : Int) (od_ (by first | (with_reducible assumption) | assumption)) (by first | exact hq24 | (have e_ := (Kd.S_reads' HO_7.out).1; omega)); obtain ⟨ve24_0, rfl, ge24_0⟩ := hM24; have hv24 := hcc24 0 _ rfl; rw [Nat.add_zero, show ((Kd.slice 108 k108)).sz = 1 from rfl, Nat.mul_one] at hv24; replace hv24 := Option.some.inj (hv24.symm.trans HX594_0.out); subst hv24; clear hcc24 hcl24; replace ge24_0 := (show Kd.R k108 108 _ _ _ _ (rd_L9 y593 x8_1) from ge24_0); obtain ⟨cf24, hcl24, hN24, hcc24, hfr24⟩ := Kd.R_elem ge24_0 z108 (0 : Int) (by omega) (by have h_ : (0 : Int) < (((rd_L9 y593 x8_1).length : Int) : Int) := od_ (by first | (with_reducible assumption) | assumption); first | exact h_ | (have e_ := (Kd.R_reads' HR594_0.out).1; omega) | simpa using h_); obtain rfl := k108_openM hN24; have HP24 := Kd.R_seg ge24_0 (0 : Int) (by omega) (by have h_ : (0 : Int) < (((rd_L9 y593 x8_1).length : Int) : Int) := od_ (by first | (with_reducible assumption) | assumption); first | exact h_ | (have e_ := (Kd.R_reads' HR594_0.out).1; omega) | simpa using h_) (seg := [.int .i64 1, .int .i64 0]) (j := 0) hcl24 hcc24 (show 2 ≤ 2 from by decide) (x' := (⟨1, 0⟩ : S108)) (k108_mkM _ _ _ (⟨1, 0⟩ : S108)) (fun _ hk => hk); clear hcl24 hcc24 hfr24; (try clear hN24)) | ((with_reducible refine gate_store (t := 108) (p := 39) rfl ?_); refine store_event (t := 108) (p := 39) (v := ?vo_w25) (w1 := ((w23.setCell ⟨go18, 0, none⟩ (.int .i64 1)).setCell ⟨go18, 1, none⟩ (.int .i64 0))) ?hg ?ho ?hn ?hr ?_; (case ho => rfl); (case hg => rfl); (case hn => rfl); (case hr => first | (go_simp; done) | (go_simp; rfl)); intro w25 hw; have hg : w23.grownBy w25 (some go18) := (by rw [hw]; exact HP24.2); have hz_ : Kd.R k108 108 w25 w.heap.size oki24 (.slice (some ⟨go18, 0, none⟩) (rd_L9 y593 x8_1).length c594_0) y595 := (by rw [hw, Ny595.out]; exact HP24.1); have hp_ : Kd.S (Kd.slice 108 k108) 109 w25 w.heap.size (fun _ => True) (.slice (some ⟨go15, 0, none⟩) x7_1.length co15) y597 := (by rw [Ny597.out]; exact hbk24 hg (fun k_ e_ => by injection e_ with e_; subst e_; exact ge24_0.1 _ rfl) (Kd.M_row hz_)); have hm_ := Kd.R_mono hz_ hok24; clear HP24 hbk24; have n0_ := am_ (hp_); have n1_ := am_ ((by rw [hw]; exact bS_ (bS_ (HB.out) GB18.out) GB18.out : Below w.heap.size w w25)); have n2_ := am_ (hm_); have n3_ := am_ ((Kd.R_reads' hm_).2.1); clear HO_7; clear HB; clear HL594_0; have HO_7 := n0_; have HB := n1_; have HL630 := n2_; have HC596 := n3_; clear n0_ n1_ n2_ n3_; clear hg hw hp_ hz_ hm_ hok24))
            go_roundg k1
            case measure => have := HK1.out; omega
            case rel => exact ⟨(y597), (wrap64 (x8_1 - 1)), (by first | rfl | (simp; done) | (simp [*]; done)), H', ⟨by have := HK1.out; omega⟩, ⟨by (with_reducible repeat (first | apply Kd.S_alloc | apply Kd.S_drewN | apply Kd.S_drew)); exact HO_7.out⟩, ⟨by repeat (first | (with_reducible first | exact HB.out | apply bA_ | apply bN_ | apply bD_) | exact HB.out)⟩⟩
           ·
            rw [if_neg c17] at H; exact absurd H (by simp)
          ·
           rw [if_neg c16] at H; have c16b0 : (x8_1 == (l0.length : Int)) = false := beq_eq_false_iff_ne.mpr c16; have c16b1 : (x8_1 != (l0.length : Int)) = true := bne_iff_ne.mpr c16
           by_cases c26 : x8_1 < (l0.length : Int)
           ·
            rw [if_pos c26] at H; have c26b0 : decide (x8_1 < (l0.length : Int)) = true := decide_eq_true c26; clear c26; have H' := am_ H; clear H
            go_wp2_with (first | ((with_reducible refine gate_dst (N := 28) rfl ?_); refine Kd.R_make k108 _ 108 rfl (N := 28) rfl 109 _ _ rfl ji10 rfl rfl Try.underlying109 (.agg #[(.int .i64 0), (.int .i64 0)]) 16 info108 rfl (by decide) (by omega) z108 (ok := fun _ => True) (okp := fun _ => True) (k108_mkM _ _ _ z108 ) (fun _ hk => hk) trivial (od_ (by first | (with_reducible assumption) | assumption)) (Nat.le_trans (Nat.mul_le_mul_right _ (od_ (by first | (with_reducible assumption) | assumption) : ji10.toNat ≤ 17592186044416)) (by omega)) (Below.refl _ _) (Nat.le_refl _) ?_; intro v591 w27 ho28 hb hg_ hnew_; clear hg_ hnew_; (first | rw [← Ny590.out] at ho28 | (simp only [Int.reduceToNat] at ho28; rw [← Ny590.out] at ho28)); have n0_ := am_ (Kd.S_elder' (by (with_reducible repeat (first | apply Kd.S_alloc | apply Kd.S_drewN | apply Kd.S_drew)); exact HO_7.out) (Kd.R_base ho28) hb); have n1_ := am_ (Kd.R_lower ho28 (below_size (by repeat (first | (with_reducible first | exact HB.out | apply bA_ | apply bN_ | apply bD_) | exact HB.out)))); have n2_ := am_ (bT_ (by repeat (first | (with_reducible first | exact HB.out | apply bA_ | apply bN_ | apply bD_) | exact HB.out)) hb); clear HO_7; clear HB; have HO_7 := n0_; have HO592 := n1_; have HB := n2_; clear n0_ n1_ n2_; clear hb ho28; have p15 : 0 ≤ (x8_1 : Int) := od_ (by first | (with_reducible assumption) | assumption); have q15 : (x8_1 : Int) < ((x7_1.length : Int) : Int) := od_ (by first | (with_reducible assumption) | assumption); obtain ⟨go15, co15, eo15, gb15, gl15, cl15, HG15⟩ := Kd.S_form HO_7.out (by omega); (first | cases eo15 | (injection eo15 with ea_ en_ ec_; (first | subst ea_ | (injection ea_ with ea_; subst ea_)); subst ec_; clear en_)); have GB15 := am_ gb15; have GG15 := am_ HG15; clear gb15 gl15 HG15; obtain ⟨_, ce15, hcl15, hM15, hcc15, hfr15, _, _⟩ := Kd.S_elem HO_7.out [] (x8_1 : Int) p15 q15; obtain ⟨ve15_0, rfl, ge15_0⟩ := hM15; have hx15_0 := hcc15 0 _ rfl; have hf15_0 := hfr15 0; (try simp only [show ((Kd.slice 108 k108)).sz = 1 from rfl, Nat.mul_one, Nat.add_zero] at hx15_0); (try simp only [show ((Kd.slice 108 k108)).sz = 1 from rfl, Nat.mul_one, Nat.add_zero] at hf15_0); clear hcl15 hcc15 hfr15; (try clear hM15); replace p15 := eq_true p15; replace q15 := eq_true q15; obtain ⟨Ao29, co29, eo29⟩ := Kd.R_slice HO592.out; subst eo29; have n_ := am_ (Kd.S_mono (ok' := (fun k_ => some k_ ≠ (.slice Ao29 y590.length co29 : Value).ownBlock)) HO_7.out (fun k_ hk => hk.2)); clear HO_7; have HO_7 := n_; clear n_; have HX30 := am_ (show Kd.S (Kd.slice 108 k108) 109 w27 w.heap.size (fun k_ => ((fun _ => True)) k_ ∧ ¬ ((fun k_ => some k_ = (.slice Ao29 y590.length co29 : Value).ownBlock)) k_) (.slice (some ⟨go15, 0, none⟩) x7_1.length co15) x7_1 from (by (with_reducible repeat (first | apply Kd.S_alloc | apply Kd.S_drewN | apply Kd.S_drew)); exact Kd.S_mono HO_7.out (fun k_ hk => ⟨trivial, fun e_ => hk e_⟩))); obtain ⟨oki30, ce30, hcl30, hM30, hcc30, hfr30, hoki30, hH30⟩ := Kd.S_elem HX30.out [] (x8_1 : Int) (od_ (by first | (with_reducible assumption) | assumption)) (by have h_ : (x8_1 : Int) < ((x7_1.length : Int) : Int) := od_ (by first | (with_reducible assumption) | assumption); first | exact h_ | (have e_ := (Kd.S_reads' HO_7.out).1; omega) | simpa using h_); obtain ⟨ve30_0, rfl, ge30_0⟩ := hM30; have HP30 := Kd.S_seg hH30 (od_ (by first | (with_reducible assumption) | assumption)) (by have h_ : (x8_1 : Int) < ((x7_1.length : Int) : Int) := od_ (by first | (with_reducible assumption) | assumption); first | exact h_ | (have e_ := (Kd.S_reads' HO_7.out).1; omega) | simpa using h_) (seg := [.slice Ao29 y590.length co29]) (j := 0) (show 1 ≤ 1 from by decide) (x' := y590) (Kd.M_row (Kd.R_mono (Kd.R_tight rfl (Kd.R_mono (ok' := fun k_ => ((fun _ => True)) k_ ∧ k_ ≠ go15) (Kd.R_apart' (HO592.out) (Kd.S_typed HO_7.out) (by decide)) (fun k_ hk => ⟨trivial, fun e_ => (hk.2) (by rw [e_]; rfl)⟩))) (fun _ h_ => Or.inr (h_)))) (fun _ hk => hk) (fun k_ hk_ => ((Kd.R_mono (ok' := fun k_ => ((fun _ => True)) k_ ∧ k_ ≠ go15) (Kd.R_apart' (HO592.out) (Kd.S_typed HO_7.out) (by decide)) (fun k_ hk => ⟨trivial, fun e_ => (hk.2) (by rw [e_]; rfl)⟩))).1 k_ hk_.symm); have hx30_0 := hcc30 0 _ rfl; (try simp only [show ((Kd.slice 108 k108)).sz = 1 from rfl, Nat.mul_one, Nat.add_zero] at hx30_0); have hf30_0 := hfr30 0; (try simp only [show ((Kd.slice 108 k108)).sz = 1 from rfl, Nat.mul_one, Nat.add_zero] at hf30_0); clear hcl30 hcc30 hfr30; (try clear hM30); clear hoki30 hH30; (try simp only [show ((Kd.slice 108 k108)).sz = 1 from rfl, Nat.mul_one, Nat.add_zero] at HP30)) | ((with_reducible refine gate_store (t := 109) (p := 29) rfl ?_); refine store_event (t := 109) (p := 29) (v := ?vo_w31) (w1 := (w27.setCell ⟨go15, (x8_1 : Int).toNat, none⟩ (.slice Ao29 y590.length co29))) ?hg ?ho ?hn ?hr ?_; (case ho => rfl); (case hg => rfl); (case hn => rfl); (case hr => first | (go_simp; done) | (go_simp; rfl)); intro w31 hw; have hg : w27.grownBy w31 (some go15) := (by rw [hw]; exact HP30.2); have hp_ : Kd.S (Kd.slice 108 k108) 109 w31 w.heap.size (fun _ => True) (.slice (some ⟨go15, 0, none⟩) x7_1.length co15) y593 := (by rw [hw, Ny593.out]; exact HP30.1); clear HP30; have n0_ := am_ (hp_); have n1_ := am_ ((by rw [hw]; exact bS_ (HB.out) GB15.out : Below w.heap.size w w31)); clear HO_7; clear HB; clear HO592; have HO_7 := n0_; have HB := n1_; clear n0_ n1_; clear hg hw hp_; have p598 : 0 ≤ (x8_1 : Int) := od_ (by first | (with_reducible assumption) | assumption); have q598 : x8_1 < (l0.length : Int) := od_ (by first | (with_reducible assumption) | assumption); obtain ⟨ad598, e598, hx598_0, hx598_1⟩ := at_T68 HR0.out x8_1 p598 q598; cases e598; replace hx598_0 := (HB.out.cell (bl_ w _ hx598_0)).trans hx598_0; replace hx598_1 := (HB.out.cell (bl_ w _ hx598_1)).trans hx598_1; replace p598 := eq_true p598; replace q598 := eq_true q598; have p599 : 0 ≤ (x8_1 : Int) := od_ (by first | (with_reducible assumption) | assumption); have q599 : x8_1 < (y593.length : Int) := (by have h_ : (x8_1 : Int) < ((x7_1.length : Int) : Int) := od_ (by first | (with_reducible assumption) | assumption); first | (have e_ := (Kd.S_reads' HO_7.out).1; omega) | simpa only [Ny593.out, List.length_set] using h_); have ql599 : ((x8_1 : Int) < ((x7_1.length : Int) : Int)) = True := eq_true (od_ (by first | (with_reducible assumption) | assumption)); obtain ⟨ad599, A599_0, c599_0, e599, hx599_0, hl599_0, hi599_0⟩ := at_L9 (Kd.S_reads' HO_7.out).2.2 x8_1 p599 q599; obtain rfl : (⟨go15, 0, none⟩ : Addr) = ad599 := (by injection e599); obtain ⟨ce599, hce599, hMe599, hcc599⟩ := Kd.S_get HO_7.out [] x8_1 p599 (by first | exact q599 | exact od_ (by first | (with_reducible assumption) | assumption) | (have e_ := (Kd.S_reads' HO_7.out).1; omega)); obtain ⟨ve599_0, rfl, ge599_0⟩ := hMe599; have hv599_0 := hcc599 0 _ rfl; rw [Nat.add_zero, show ((Kd.slice 108 k108)).sz = 1 from rfl, Nat.mul_one] at hv599_0; replace hv599_0 := Option.some.inj (hv599_0.symm.trans hx599_0); rw [hv599_0] at ge599_0; have HL599_0 := am_ (show Kd.R k108 108 _ _ _ _ (rd_L9 y593 x8_1) from ge599_0); clear hv599_0 ge599_0; have HX599_0 := am_ hx599_0; clear hcc599 hce599; (first | simp only [add_plain] at hx599_0 | simp only [add_at] at hx599_0 | simp only [Addr.add, Nat.zero_add] at hx599_0 | skip); have HR599_0 := am_ hi599_0; have HC599_0 := am_ hl599_0; clear hi599_0 hl599_0; replace p599 := eq_true p599; replace q599 := eq_true q599))
            go_loopg [53] k1 (fun kq v53 w' => ∃ (x7_2 : List (List (S108))) (x53_2 : Int), v53 = .int .i64 x53_2 ∧ Aside0 (impl_fillings.l1 kq l0 a1 a2 x7_2 x8_1 (wrap64 ((wrap64 ((rd_T68 l0 x8_1).f0)) + a2)) ((rd_L9 y593 x8_1).length : Int) x53_2 = some r) ∧ Aside0 (kq ≤ k1) ∧ Aside0 (Kd.S (Kd.slice 108 k108) 109 w' w.heap.size (fun _ => True) (.slice (some ⟨go15, 0, none⟩) x7_1.length co15) x7_2) ∧ Aside0 (Below w.heap.size w w'))
            case atStart => exact ⟨(y593), (0), (by first | rfl | (simp; done) | (simp [*]; done)), H', ⟨Nat.le_refl _⟩, ⟨by (with_reducible repeat (first | apply Kd.S_alloc | apply Kd.S_drewN | apply Kd.S_drew)); exact HO_7.out⟩, ⟨by repeat (first | (with_reducible first | exact HB.out | apply bA_ | apply bN_ | apply bD_) | exact HB.out)⟩⟩
            case round =>
             clear H'; (try clear c1); (try clear p1); (try clear q1); (try clear hx1); (try clear qi1); (try clear c2); (try clear p2); (try clear q2); (try clear hx2); (try clear c3); (try clear hx3); (try clear hf3); (try clear c5); (try clear c5b0); (try clear c5b1); (try clear p5); (try clear q5); (try clear hx5); (try clear c6); (try clear c6b0); (try clear c6b1); (try clear p6); (try clear c9); (try clear c9b0); (try clear c11); (try clear c11b0); (try clear c11b1); (try clear c12); (try clear c12b0); (try clear c12b1); (try clear c13); (try clear c13b0); (try clear c14); (try clear c14b0); (try clear c15); (try clear p15); (try clear q15); (try clear hx15); (try clear hf15); (try clear c16); (try clear c16b0); (try clear c16b1); (try clear c17); (try clear c17b0); (try clear c17b1); (try clear c18); (try clear p18); (try clear q18); (try clear hx18); (try clear qi18); (try clear hf18); (try clear c22); (try clear hx22); (try clear hf22); (try clear c24); (try clear q24); (try clear c26); (try clear c26b0); (try clear c30); (try clear hx30); (try clear hf30); (try clear hx15_0); (try clear hx18_0); (try clear hx18_1); (try clear hx22_0); (try clear hx30_0); (try clear hx594_0); (try clear hx598_0); (try clear hx598_1); (try clear hx599_0); (try clear p15); (try clear p18); (try clear p2); (try clear p594); (try clear p598); (try clear p599); (try clear p6); (try clear q15); (try clear q18); (try clear q594); (try clear q598); (try clear q599); obtain ⟨x7_2, x53_2, rfl, HA, HK2, HO_7, HB⟩ := hrel; have hl7_2 := (Kd.S_reads' HO_7.out).1; rw [hl7_2] at HO_7; (try simp only [hl7_2])
             cases gk with
             | zero => exact absurd HA.out (by simp [impl_fillings.l1])
             | succ k2 =>
              have H := HA.out; clear HA; simp only [impl_fillings.l1] at H
              by_cases c32 : x53_2 < ((rd_L9 y593 x8_1).length : Int)
              ·
               rw [if_pos c32] at H; have c32b0 : decide (x53_2 < ((rd_L9 y593 x8_1).length : Int)) = true := decide_eq_true c32; clear c32; have H' := am_ H; clear H
               go_wp2
               go_loopg [11] k2 (fun kq v11 w' => ∃ (x7_3 : List (List (S108))) (x11_3 : Int), v11 = .int .i64 x11_3 ∧ Aside0 (impl_fillings.l2 kq l0 a1 a2 x7_3 x8_1 (wrap64 ((wrap64 ((rd_T68 l0 x8_1).f0)) + a2)) x53_2 x11_3 ((rd_L9 y593 x8_1).length : Int) x53_2 = some r) ∧ Aside0 (kq ≤ k2) ∧ Aside0 (Kd.S (Kd.slice 108 k108) 109 w' w.heap.size (fun _ => True) (.slice (some ⟨go15, 0, none⟩) x7_2.length co15) x7_3) ∧ Aside0 (Below w.heap.size w w'))
               case atStart => exact ⟨(x7_2), (0), (by first | rfl | (simp; done) | (simp [*]; done)), H', ⟨Nat.le_refl _⟩, ⟨by (try simp only [hl7_2]); (with_reducible repeat (first | apply Kd.S_alloc | apply Kd.S_drewN | apply Kd.S_drew)); exact HO_7.out⟩, ⟨by repeat (first | (with_reducible first | exact HB.out | apply bA_ | apply bN_ | apply bD_) | exact HB.out)⟩⟩
               case round =>
                clear H'; (try clear c1); (try clear p1); (try clear q1); (try clear hx1); (try clear qi1); (try clear c2); (try clear p2); (try clear q2); (try clear hx2); (try clear c3); (try clear hx3); (try clear hf3); (try clear c5); (try clear c5b0); (try clear c5b1); (try clear p5); (try clear q5); (try clear hx5); (try clear c6); (try clear c6b0); (try clear c6b1); (try clear p6); (try clear c9); (try clear c9b0); (try clear c11); (try clear c11b0); (try clear c11b1); (try clear c12); (try clear c12b0); (try clear c12b1); (try clear c13); (try clear c13b0); (try clear c14); (try clear c14b0); (try clear c15); (try clear p15); (try clear q15); (try clear hx15); (try clear hf15); (try clear c16); (try clear c16b0); (try clear c16b1); (try clear c17); (try clear c17b0); (try clear c17b1); (try clear c18); (try clear p18); (try clear q18); (try clear hx18); (try clear qi18); (try clear hf18); (try clear c22); (try clear hx22); (try clear hf22); (try clear c24); (try clear q24); (try clear c26); (try clear c26b0); (try clear c30); (try clear hx30); (try clear hf30); (try clear c32); (try clear c32b0); (try clear hx15_0); (try clear hx18_0); (try clear hx18_1); (try clear hx22_0); (try clear hx30_0); (try clear hx594_0); (try clear hx598_0); (try clear hx598_1); (try clear hx599_0); (try clear p1); (try clear p15); (try clear p18); (try clear p2); (try clear p5); (try clear p594); (try clear p598); (try clear p599); (try clear p6); (try clear q1); (try clear q15); (try clear q18); (try clear q2); (try clear q24); (try clear q5); (try clear q594); (try clear q598); (try clear q599); obtain ⟨x7_3, x11_3, rfl, HA, HK3, HO_7, HB⟩ := hrel; have hl7_3 := (Kd.S_reads' HO_7.out).1; rw [hl7_3] at HO_7; (try simp only [hl7_3])
                cases gk with
                | zero => exact absurd HA.out (by simp [impl_fillings.l2])
                | succ k3 =>
                 have H := HA.out; clear HA; simp only [impl_fillings.l2] at H
                 by_cases c33 : 0 ≤ x8_1
                 ·
                  rw [if_pos c33] at H; have c33b0 : decide (0 ≤ x8_1) = true := decide_eq_true c33; clear c33
                  by_cases c34 : x8_1 < (l0.length : Int)
                  ·
                   rw [if_pos c34] at H; have c34b0 : decide (x8_1 < (l0.length : Int)) = true := decide_eq_true c34; clear c34
                   by_cases c35 : x11_3 ≤ (wrap64 ((rd_T68 l0 x8_1).f1))
                   ·
                    rw [if_pos c35] at H; have c35b0 : decide (x11_3 ≤ (wrap64 ((rd_T68 l0 x8_1).f1))) = true := decide_eq_true c35; clear c35
                    by_cases c36 : (wrap64 (x11_3 * (wrap64 ((wrap64 ((rd_T68 l0 x8_1).f0)) + a2)))) ≤ x53_2
                    ·
                     rw [if_pos c36] at H; have c36b0 : decide ((wrap64 (x11_3 * (wrap64 ((wrap64 ((rd_T68 l0 x8_1).f0)) + a2)))) ≤ x53_2) = true := decide_eq_true c36; clear c36; obtain ⟨ji37, hji37⟩ : ∃ j_ : Int, (wrap64 (x8_1 + 1)) = j_ := ⟨_, rfl⟩
                     replace H : (if 0 ≤ (ji37) then (if (ji37) < (x7_3.length : Int) then (if 0 ≤ (wrap64 (x53_2 - (wrap64 (x11_3 * (wrap64 ((wrap64 ((rd_T68 l0 x8_1).f0)) + a2)))))) then (if (wrap64 (x53_2 - (wrap64 (x11_3 * (wrap64 ((wrap64 ((rd_T68 l0 x8_1).f0)) + a2)))))) < ((rd_L9 x7_3 (ji37)).length : Int) then (if ((rd_T108 (rd_L9 x7_3 (ji37)) (wrap64 (x53_2 - (wrap64 (x11_3 * (wrap64 ((wrap64 ((rd_T68 l0 x8_1).f0)) + a2))))))).f0) = 0 then (impl_fillings.l2 k3 l0 a1 a2 x7_3 x8_1 (wrap64 ((wrap64 ((rd_T68 l0 x8_1).f0)) + a2)) x53_2 (wrap64 (x11_3 + 1)) ((rd_L9 y593 x8_1).length : Int) x53_2) else (if x8_1 < (x7_3.length : Int) then (if 0 ≤ x53_2 then (if x53_2 < ((rd_L9 x7_3 x8_1).length : Int) then (if ((rd_T108 (rd_L9 x7_3 x8_1) x53_2).f0) = 0 then ((some (x7_3.set (x8_1 : Int).toNat ((rd_L9 x7_3 x8_1).set (x53_2 : Int).toNat (⟨(rd_T108 (rd_L9 x7_3 x8_1) x53_2).f0, wrap64 (((rd_T108 (rd_L9 x7_3 (ji37)) (wrap64 (x53_2 - (wrap64 (x11_3 * (wrap64 ((wrap64 ((rd_T68 l0 x8_1).f0)) + a2))))))).f1) + x11_3)⟩ : S108)) : List (List (S108)))).bind fun y610 => (if x53_2 < ((rd_L9 y610 x8_1).length : Int) then (impl_fillings.l2 k3 l0 a1 a2 (y610.set (x8_1 : Int).toNat ((rd_L9 y610 x8_1).set (x53_2 : Int).toNat (⟨wrap64 (((rd_T108 (rd_L9 y610 x8_1) x53_2).f0) + ((rd_T108 (rd_L9 x7_3 (ji37)) (wrap64 (x53_2 - (wrap64 (x11_3 * (wrap64 ((wrap64 ((rd_T68 l0 x8_1).f0)) + a2))))))).f0)), (rd_T108 (rd_L9 y610 x8_1) x53_2).f1⟩ : S108))) x8_1 (wrap64 ((wrap64 ((rd_T68 l0 x8_1).f0)) + a2)) x53_2 (wrap64 (x11_3 + 1)) ((rd_L9 y593 x8_1).length : Int) x53_2) else (none))) else (if (wrap64 (((rd_T108 (rd_L9 x7_3 (ji37)) (wrap64 (x53_2 - (wrap64 (x11_3 * (wrap64 ((wrap64 ((rd_T68 l0 x8_1).f0)) + a2))))))).f1) + x11_3)) < ((rd_T108 (rd_L9 x7_3 x8_1) x53_2).f1) then ((some (x7_3.set (x8_1 : Int).toNat ((rd_L9 x7_3 x8_1).set (x53_2 : Int).toNat (⟨(rd_T108 (rd_L9 x7_3 x8_1) x53_2).f0, wrap64 (((rd_T108 (rd_L9 x7_3 (ji37)) (wrap64 (x53_2 - (wrap64 (x11_3 * (wrap64 ((wrap64 ((rd_T68 l0 x8_1).f0)) + a2))))))).f1) + x11_3)⟩ : S108)) : List (List (S108)))).bind fun y619 => (if x53_2 < ((rd_L9 y619 x8_1).length : Int) then (impl_fillings.l2 k3 l0 a1 a2 (y619.set (x8_1 : Int).toNat ((rd_L9 y619 x8_1).set (x53_2 : Int).toNat (⟨wrap64 (((rd_T108 (rd_L9 y619 x8_1) x53_2).f0) + ((rd_T108 (rd_L9 x7_3 (ji37)) (wrap64 (x53_2 - (wrap64 (x11_3 * (wrap64 ((wrap64 ((rd_T68 l0 x8_1).f0)) + a2))))))).f0)), (rd_T108 (rd_L9 y619 x8_1) x53_2).f1⟩ : S108))) x8_1 (wrap64 ((wrap64 ((rd_T68 l0 x8_1).f0)) + a2)) x53_2 (wrap64 (x11_3 + 1)) ((rd_L9 y593 x8_1).length : Int) x53_2) else (none))) else (impl_fillings.l2 k3 l0 a1 a2 (x7_3.set (x8_1 : Int).toNat ((rd_L9 x7_3 x8_1).set (x53_2 : Int).toNat (⟨wrap64 (((rd_T108 (rd_L9 x7_3 x8_1) x53_2).f0) + ((rd_T108 (rd_L9 x7_3 (ji37)) (wrap64 (x53_2 - (wrap64 (x11_3 * (wrap64 ((wrap64 ((rd_T68 l0 x8_1).f0)) + a2))))))).f0)), (rd_T108 (rd_L9 x7_3 x8_1) x53_2).f1⟩ : S108))) x8_1 (wrap64 ((wrap64 ((rd_T68 l0 x8_1).f0)) + a2)) x53_2 (wrap64 (x11_3 + 1)) ((rd_L9 y593 x8_1).length : Int) x53_2))) else (none)) else (none)) else (none))) else (none)) else (none)) else (none)) else (none)) = some r := by first | (rw [hji37] at H; exact H) | (simp only [hji37] at H ⊢; exact H)
                     have hji37w : (IntKind.i64.wrap (x8_1 + 1)) = ji37 := (i64_w _).trans hji37
                     by_cases c38 : 0 ≤ (ji37)
                     ·
                      rw [if_pos c38] at H; have c38b0 : decide (0 ≤ (ji37)) = true := decide_eq_true c38; clear c38
                      by_cases c39 : (ji37) < (x7_3.length : Int)
                      ·
                       rw [if_pos c39] at H; have c39b0 : decide ((ji37) < (x7_3.length : Int)) = true := decide_eq_true c39; clear c39; obtain ⟨ji40, hji40⟩ : ∃ j_ : Int, (wrap64 (x53_2 - (wrap64 (x11_3 * (wrap64 ((wrap64 ((rd_T68 l0 x8_1).f0)) + a2)))))) = j_ := ⟨_, rfl⟩
                       replace H : (if 0 ≤ (ji40) then (if (ji40) < ((rd_L9 x7_3 (ji37)).length : Int) then (if ((rd_T108 (rd_L9 x7_3 (ji37)) (ji40)).f0) = 0 then (impl_fillings.l2 k3 l0 a1 a2 x7_3 x8_1 (wrap64 ((wrap64 ((rd_T68 l0 x8_1).f0)) + a2)) x53_2 (wrap64 (x11_3 + 1)) ((rd_L9 y593 x8_1).length : Int) x53_2) else (if x8_1 < (x7_3.length : Int) then (if 0 ≤ x53_2 then (if x53_2 < ((rd_L9 x7_3 x8_1).length : Int) then (if ((rd_T108 (rd_L9 x7_3 x8_1) x53_2).f0) = 0 then ((some (x7_3.set (x8_1 : Int).toNat ((rd_L9 x7_3 x8_1).set (x53_2 : Int).toNat (⟨(rd_T108 (rd_L9 x7_3 x8_1) x53_2).f0, wrap64 (((rd_T108 (rd_L9 x7_3 (ji37)) (ji40)).f1) + x11_3)⟩ : S108)) : List (List (S108)))).bind fun y610 => (if x53_2 < ((rd_L9 y610 x8_1).length : Int) then (impl_fillings.l2 k3 l0 a1 a2 (y610.set (x8_1 : Int).toNat ((rd_L9 y610 x8_1).set (x53_2 : Int).toNat (⟨wrap64 (((rd_T108 (rd_L9 y610 x8_1) x53_2).f0) + ((rd_T108 (rd_L9 x7_3 (ji37)) (ji40)).f0)), (rd_T108 (rd_L9 y610 x8_1) x53_2).f1⟩ : S108))) x8_1 (wrap64 ((wrap64 ((rd_T68 l0 x8_1).f0)) + a2)) x53_2 (wrap64 (x11_3 + 1)) ((rd_L9 y593 x8_1).length : Int) x53_2) else (none))) else (if (wrap64 (((rd_T108 (rd_L9 x7_3 (ji37)) (ji40)).f1) + x11_3)) < ((rd_T108 (rd_L9 x7_3 x8_1) x53_2).f1) then ((some (x7_3.set (x8_1 : Int).toNat ((rd_L9 x7_3 x8_1).set (x53_2 : Int).toNat (⟨(rd_T108 (rd_L9 x7_3 x8_1) x53_2).f0, wrap64 (((rd_T108 (rd_L9 x7_3 (ji37)) (ji40)).f1) + x11_3)⟩ : S108)) : List (List (S108)))).bind fun y619 => (if x53_2 < ((rd_L9 y619 x8_1).length : Int) then (impl_fillings.l2 k3 l0 a1 a2 (y619.set (x8_1 : Int).toNat ((rd_L9 y619 x8_1).set (x53_2 : Int).toNat (⟨wrap64 (((rd_T108 (rd_L9 y619 x8_1) x53_2).f0) + ((rd_T108 (rd_L9 x7_3 (ji37)) (ji40)).f0)), (rd_T108 (rd_L9 y619 x8_1) x53_2).f1⟩ : S108))) x8_1 (wrap64 ((wrap64 ((rd_T68 l0 x8_1).f0)) + a2)) x53_2 (wrap64 (x11_3 + 1)) ((rd_L9 y593 x8_1).length : Int) x53_2) else (none))) else (impl_fillings.l2 k3 l0 a1 a2 (x7_3.set (x8_1 : Int).toNat ((rd_L9 x7_3 x8_1).set (x53_2 : Int).toNat (⟨wrap64 (((rd_T108 (rd_L9 x7_3 x8_1) x53_2).f0) + ((rd_T108 (rd_L9 x7_3 (ji37)) (ji40)).f0)), (rd_T108 (rd_L9 x7_3 x8_1) x53_2).f1⟩ : S108))) x8_1 (wrap64 ((wrap64 ((rd_T68 l0 x8_1).f0)) + a2)) x53_2 (wrap64 (x11_3 + 1)) ((rd_L9 y593 x8_1).length : Int) x53_2))) else (none)) else (none)) else (none))) else (none)) else (none)) = some r := by first | (rw [hji40] at H; exact H) | (simp only [hji40] at H ⊢; exact H)
                       have hji40w : (IntKind.i64.wrap (x53_2 - (wrap64 (x11_3 * (wrap64 ((wrap64 ((rd_T68 l0 x8_1).f0)) + a2)))))) = ji40 := (i64_w _).trans hji40
                       by_cases c41 : 0 ≤ (ji40)
                       ·
                        rw [if_pos c41] at H; have c41b0 : decide (0 ≤ (ji40)) = true := decide_eq_true c41; clear c41
                        by_cases c42 : (ji40) < ((rd_L9 x7_3 (ji37)).length : Int)
                        ·
                         rw [if_pos c42] at H; have c42b0 : decide ((ji40) < ((rd_L9 x7_3 (ji37)).length : Int)) = true := decide_eq_true c42; clear c42
                         by_cases c43 : ((rd_T108 (rd_L9 x7_3 (ji37)) (ji40)).f0) = 0
                         ·
                          rw [if_pos c43] at H; have c43b0 : (((rd_T108 (rd_L9 x7_3 (ji37)) (ji40)).f0) == 0) = true := beq_iff_eq.mpr c43; have c43b1 : (((rd_T108 (rd_L9 x7_3 (ji37)) (ji40)).f0) != 0) = false := bne_eq_false_iff_eq.mpr c43; clear c43; have H' := am_ H; clear H; have p600 : 0 ≤ (x8_1 : Int) := od_ (by first | (with_reducible assumption) | assumption); have q600 : x8_1 < (l0.length : Int) := od_ (by first | (with_reducible assumption) | assumption); obtain ⟨ad600, e600, hx600_0, hx600_1⟩ := at_T68 HR0.out x8_1 p600 q600; obtain rfl : ad598 = ad600 := (by injection e600)
                          replace hx600_0 := (HB.out.cell (bl_ w _ hx600_0)).trans hx600_0; replace hx600_1 := (HB.out.cell (bl_ w _ hx600_1)).trans hx600_1; replace p600 := eq_true p600; replace q600 := eq_true q600; have p601 : 0 ≤ ((ji37) : Int) := od_ (by first | (with_reducible assumption) | assumption); have q601 : (ji37) < (x7_3.length : Int) := od_ (by first | (with_reducible assumption) | assumption); obtain ⟨ad601, A601_0, c601_0, e601, hx601_0, hl601_0, hi601_0⟩ := at_L9 (Kd.S_reads' HO_7.out).2.2 (ji37) p601 q601; obtain rfl : (⟨go15, 0, none⟩ : Addr) = ad601 := (by injection e601)
                          obtain ⟨ce601, hce601, hMe601, hcc601⟩ := Kd.S_get HO_7.out [] (ji37) p601 (by first | exact q601 | exact od_ (by first | (with_reducible assumption) | assumption) | (have e_ := (Kd.S_reads' HO_7.out).1; omega)); obtain ⟨ve601_0, rfl, ge601_0⟩ := hMe601; have hv601_0 := hcc601 0 _ rfl; rw [Nat.add_zero, show ((Kd.slice 108 k108)).sz = 1 from rfl, Nat.mul_one] at hv601_0; replace hv601_0 := Option.some.inj (hv601_0.symm.trans hx601_0); rw [hv601_0] at ge601_0; have HL601_0 := am_ (show Kd.R k108 108 _ _ _ _ (rd_L9 x7_3 (ji37)) from ge601_0); clear hv601_0 ge601_0; have HX601_0 := am_ hx601_0; clear hcc601 hce601
                          (first | simp only [add_plain] at hx601_0 | simp only [add_at] at hx601_0 | simp only [Addr.add, Nat.zero_add] at hx601_0 | skip)
                          have HR601_0 := am_ hi601_0; have HC601_0 := am_ hl601_0; clear hi601_0 hl601_0; replace p601 := eq_true p601; replace q601 := eq_true q601; have p602 : 0 ≤ ((ji40) : Int) := od_ (by first | (with_reducible assumption) | assumption); have q602 : (ji40) < ((rd_L9 x7_3 (ji37)).length : Int) := od_ (by first | (with_reducible assumption) | assumption); obtain ⟨ad602, e602, hx602_0, hx602_1⟩ := at_T108 (by repeat (first | (with_reducible exact HR601_0.out) | (with_reducible refine Kd.C_alloc ?_ _) | (with_reducible refine Kd.C_drewN ?_ _) | (with_reducible refine Kd.C_drew ?_) | exact HR601_0.out)) (ji40) p602 q602
                          cases e602
                          replace p602 := eq_true p602; replace q602 := eq_true q602
                          go_wp2_with (first | ((with_reducible refine gate_dst (N := 12) rfl ?_); refine box_event ?hg (N := 12) ?hd (cs := #[.int .i64 0, .int .i64 0]) (t := 108) ?hr ?_; (case hd => rfl); (case hg => rfl); (case hr => first | (go_simp; done) | (go_simp; rfl)); intro gb603 hg w44 hbox hb; have n0_ := am_ (Kd.S_below (Kd.S_elderB (by (with_reducible repeat (first | apply Kd.S_alloc | apply Kd.S_drewN | apply Kd.S_drew)); exact HO_7.out) gb603 (Nat.le_of_eq hg.symm)) hb); have n1_ := am_ (Kd.R_below (Kd.R_elderB (by (with_reducible repeat (first | apply Kd.R_alloc | apply Kd.R_drewN | apply Kd.R_drew)); exact HL601_0.out) gb603 (Nat.le_of_eq hg.symm)) hb); have n2_ := am_ (Kd.C_below (by repeat (first | (with_reducible exact HR601_0.out) | (with_reducible refine Kd.C_alloc ?_ _) | (with_reducible refine Kd.C_drewN ?_ _) | (with_reducible refine Kd.C_drew ?_) | exact HR601_0.out)) hb); have n3_ := am_ (pw_cell_below hb HX601_0.out); have n4_ := am_ (bT_ (by repeat (first | (with_reducible first | exact HB.out | apply bA_ | apply bN_ | apply bD_) | exact HB.out)) hb); have n5_ := am_ (hbox); have n6_ := am_ ((by rw [hg]; exact (below_size (by repeat (first | (with_reducible first | exact HB.out | apply bA_ | apply bN_ | apply bD_) | exact HB.out))) : w.heap.size ≤ gb603)); have n7_ := n6_; clear HO_7; clear HL601_0; clear HR601_0; clear HX601_0; clear HB; have HO_7 := n0_; have HL601_0 := n1_; have HR601_0 := n2_; have HX601_0 := n3_; have HB := n4_; have BK603 := n5_; have GW603 := n6_; have GE603 := n7_; clear n0_ n1_ n2_ n3_ n4_ n5_ n6_ n7_; clear hb hbox hg; have hcz45_0 : w44.cell? ⟨gb603, 0, none⟩ = some (.int .i64 0) := (kC_ BK603.out 0).trans rfl; have hcz45_1 : w44.cell? ⟨gb603, 1, none⟩ = some (.int .i64 0) := (kC_ BK603.out 1).trans rfl; have hfz45_0 := kF_ BK603.out 0; have hfz45_1 := kF_ BK603.out 1))
                          (try simp only [← hl7_3])
                          go_roundg k3
                          case measure => have := HK1.out; have := HK2.out; have := HK3.out; omega
                          case rel => exact ⟨(x7_3), (wrap64 (x11_3 + 1)), (by first | rfl | (simp; done) | (simp [*]; done)), H', ⟨by have := HK1.out; have := HK2.out; have := HK3.out; omega⟩, ⟨by (try simp only [hl7_2]); (try simp only [hl7_3]); (with_reducible repeat (first | apply Kd.S_alloc | apply Kd.S_drewN | apply Kd.S_drew)); exact Kd.S_mono (Kd.S_far (p := ⟨gb603, 1, none⟩) (Kd.S_far (p := ⟨gb603, 0, none⟩) (Kd.S_mono HO_7.out (fun k_ hk => (⟨hk, hk.2⟩ : _ ∧ k_ ≠ gb603))) (fun _ hk => hk.2) (.int .i64 ((rd_T108 (rd_L9 x7_3 (ji37)) (ji40)).f0))) (fun _ hk => hk.2) (.int .i64 ((rd_T108 (rd_L9 x7_3 (ji37)) (ji40)).f1))) (fun _ hk => trivial)⟩, ⟨by repeat (first | (with_reducible first | exact HB.out | apply bA_ | apply bN_ | apply bD_ | refine bS_ ?_ GE603.out) | exact HB.out)⟩⟩
                         ·
                          rw [if_neg c43] at H; have c43b0 : (((rd_T108 (rd_L9 x7_3 (ji37)) (ji40)).f0) == 0) = false := beq_eq_false_iff_ne.mpr c43; have c43b1 : (((rd_T108 (rd_L9 x7_3 (ji37)) (ji40)).f0) != 0) = true := bne_iff_ne.mpr c43
                          by_cases c46 : x8_1 < (x7_3.length : Int)
                          ·
                           rw [if_pos c46] at H; have c46b0 : decide (x8_1 < (x7_3.length : Int)) = true := decide_eq_true c46; clear c46
                           by_cases c47 : 0 ≤ x53_2
                           ·
                            rw [if_pos c47] at H; have c47b0 : decide (0 ≤ x53_2) = true := decide_eq_true c47; clear c47
                            by_cases c48 : x53_2 < ((rd_L9 x7_3 x8_1).length : Int)
                            ·
                             rw [if_pos c48] at H; have c48b0 : decide (x53_2 < ((rd_L9 x7_3 x8_1).length : Int)) = true := decide_eq_true c48; clear c48
                             by_cases c49 : ((rd_T108 (rd_L9 x7_3 x8_1) x53_2).f0) = 0
                             ·
                              rw [if_pos c49] at H; have c49b0 : (((rd_T108 (rd_L9 x7_3 x8_1) x53_2).f0) == 0) = true := beq_iff_eq.mpr c49; have c49b1 : (((rd_T108 (rd_L9 x7_3 x8_1) x53_2).f0) != 0) = false := bne_eq_false_iff_eq.mpr c49; clear c49; obtain ⟨y608, hy608⟩ : ∃ y_ : List (S108), y_ = ((rd_L9 x7_3 x8_1).set (x53_2 : Int).toNat (⟨(rd_T108 (rd_L9 x7_3 x8_1) x53_2).f0, wrap64 (((rd_T108 (rd_L9 x7_3 (ji37)) (ji40)).f1) + x11_3)⟩ : S108)) := ⟨_, rfl⟩
                              replace H : ((some (x7_3.set (x8_1 : Int).toNat y608 : List (List (S108)))).bind fun y610 => (if x53_2 < ((rd_L9 y610 x8_1).length : Int) then (impl_fillings.l2 k3 l0 a1 a2 (y610.set (x8_1 : Int).toNat ((rd_L9 y610 x8_1).set (x53_2 : Int).toNat (⟨wrap64 (((rd_T108 (rd_L9 y610 x8_1) x53_2).f0) + ((rd_T108 (rd_L9 x7_3 (ji37)) (ji40)).f0)), (rd_T108 (rd_L9 y610 x8_1) x53_2).f1⟩ : S108))) x8_1 (wrap64 ((wrap64 ((rd_T68 l0 x8_1).f0)) + a2)) x53_2 (wrap64 (x11_3 + 1)) ((rd_L9 y593 x8_1).length : Int) x53_2) else (none))) = some r := by first | (rw [hy608]; with_reducible exact H) | (have H2_ := (Option.bind_some _ _).symm.trans H; rw [hy608]; with_reducible exact H2_) | (have H2_ := (Option.bind_some _ _).symm.trans H; with_reducible exact H2_) | with_reducible exact H | (rw [hy608]; exact H) | exact H
                              have Ny608 := am_ hy608; clear hy608; obtain ⟨y610, hy610⟩ : ∃ y_ : List (List (S108)), y_ = (x7_3.set (x8_1 : Int).toNat y608) := ⟨_, rfl⟩
                              replace H : (if x53_2 < ((rd_L9 y610 x8_1).length : Int) then (impl_fillings.l2 k3 l0 a1 a2 (y610.set (x8_1 : Int).toNat ((rd_L9 y610 x8_1).set (x53_2 : Int).toNat (⟨wrap64 (((rd_T108 (rd_L9 y610 x8_1) x53_2).f0) + ((rd_T108 (rd_L9 x7_3 (ji37)) (ji40)).f0)), (rd_T108 (rd_L9 y610 x8_1) x53_2).f1⟩ : S108))) x8_1 (wrap64 ((wrap64 ((rd_T68 l0 x8_1).f0)) + a2)) x53_2 (wrap64 (x11_3 + 1)) ((rd_L9 y593 x8_1).length : Int) x53_2) else (none)) = some r := by first | (rw [hy610]; with_reducible exact H) | (have H2_ := (Option.bind_some _ _).symm.trans H; rw [hy610]; with_reducible exact H2_) | (have H2_ := (Option.bind_some _ _).symm.trans H; with_reducible exact H2_) | with_reducible exact H | (rw [hy610]; exact H) | exact H
                              have Ny610 := am_ hy610; clear hy610
                              by_cases c51 : x53_2 < ((rd_L9 y610 x8_1).length : Int)
                              ·
                               rw [if_pos c51] at H; have c51b0 : decide (x53_2 < ((rd_L9 y610 x8_1).length : Int)) = true := decide_eq_true c51; clear c51; obtain ⟨y613, hy613⟩ : ∃ y_ : List (S108), y_ = ((rd_L9 y610 x8_1).set (x53_2 : Int).toNat (⟨wrap64 (((rd_T108 (rd_L9 y610 x8_1) x53_2).f0) + ((rd_T108 (rd_L9 x7_3 (ji37)) (ji40)).f0)), (rd_T108 (rd_L9 y610 x8_1) x53_2).f1⟩ : S108)) := ⟨_, rfl⟩
                               replace H : (impl_fillings.l2 k3 l0 a1 a2 (y610.set (x8_1 : Int).toNat y613) x8_1 (wrap64 ((wrap64 ((rd_T68 l0 x8_1).f0)) + a2)) x53_2 (wrap64 (x11_3 + 1)) ((rd_L9 y593 x8_1).length : Int) x53_2) = some r := by first | (rw [hy613]; with_reducible exact H) | (have H2_ := (Option.bind_some _ _).symm.trans H; rw [hy613]; with_reducible exact H2_) | (have H2_ := (Option.bind_some _ _).symm.trans H; with_reducible exact H2_) | with_reducible exact H | (rw [hy613]; exact H) | exact H
                               have Ny613 := am_ hy613; clear hy613; obtain ⟨y615, hy615⟩ : ∃ y_ : List (List (S108)), y_ = (y610.set (x8_1 : Int).toNat y613) := ⟨_, rfl⟩
                               replace H : (impl_fillings.l2 k3 l0 a1 a2 y615 x8_1 (wrap64 ((wrap64 ((rd_T68 l0 x8_1).f0)) + a2)) x53_2 (wrap64 (x11_3 + 1)) ((rd_L9 y593 x8_1).length : Int) x53_2) = some r := by first | (rw [hy615]; with_reducible exact H) | (have H2_ := (Option.bind_some _ _).symm.trans H; rw [hy615]; with_reducible exact H2_) | (have H2_ := (Option.bind_some _ _).symm.trans H; with_reducible exact H2_) | with_reducible exact H | (rw [hy615]; exact H) | exact H
                               have Ny615 := am_ hy615; clear hy615; have H' := am_ H; clear H; have p600 : 0 ≤ (x8_1 : Int) := od_ (by first | (with_reducible assumption) | assumption); have q600 : x8_1 < (l0.length : Int) := od_ (by first | (with_reducible assumption) | assumption); obtain ⟨ad600, e600, hx600_0, hx600_1⟩ := at_T68 HR0.out x8_1 p600 q600; obtain rfl : ad598 = ad600 := (by injection e600)
                               replace hx600_0 := (HB.out.cell (bl_ w _ hx600_0)).trans hx600_0; replace hx600_1 := (HB.out.cell (bl_ w _ hx600_1)).trans hx600_1; replace p600 := eq_true p600; replace q600 := eq_true q600; have p601 : 0 ≤ ((ji37) : Int) := od_ (by first | (with_reducible assumption) | assumption); have q601 : (ji37) < (x7_3.length : Int) := od_ (by first | (with_reducible assumption) | assumption); obtain ⟨ad601, A601_0, c601_0, e601, hx601_0, hl601_0, hi601_0⟩ := at_L9 (Kd.S_reads' HO_7.out).2.2 (ji37) p601 q601; obtain rfl : (⟨go15, 0, none⟩ : Addr) = ad601 := (by injection e601)
                               obtain ⟨ce601, hce601, hMe601, hcc601⟩ := Kd.S_get HO_7.out [] (ji37) p601 (by first | exact q601 | exact od_ (by first | (with_reducible assumption) | assumption) | (have e_ := (Kd.S_reads' HO_7.out).1; omega)); obtain ⟨ve601_0, rfl, ge601_0⟩ := hMe601; have hv601_0 := hcc601 0 _ rfl; rw [Nat.add_zero, show ((Kd.slice 108 k108)).sz = 1 from rfl, Nat.mul_one] at hv601_0; replace hv601_0 := Option.some.inj (hv601_0.symm.trans hx601_0); rw [hv601_0] at ge601_0; have HL601_0 := am_ (show Kd.R k108 108 _ _ _ _ (rd_L9 x7_3 (ji37)) from ge601_0); clear hv601_0 ge601_0; have HX601_0 := am_ hx601_0; clear hcc601 hce601
                               (first | simp only [add_plain] at hx601_0 | simp only [add_at] at hx601_0 | simp only [Addr.add, Nat.zero_add] at hx601_0 | skip)
                               have HR601_0 := am_ hi601_0; have HC601_0 := am_ hl601_0; clear hi601_0 hl601_0; replace p601 := eq_true p601; replace q601 := eq_true q601; have p602 : 0 ≤ ((ji40) : Int) := od_ (by first | (with_reducible assumption) | assumption); have q602 : (ji40) < ((rd_L9 x7_3 (ji37)).length : Int) := od_ (by first | (with_reducible assumption) | assumption); obtain ⟨ad602, e602, hx602_0, hx602_1⟩ := at_T108 (by repeat (first | (with_reducible exact HR601_0.out) | (with_reducible refine Kd.C_alloc ?_ _) | (with_reducible refine Kd.C_drewN ?_ _) | (with_reducible refine Kd.C_drew ?_) | exact HR601_0.out)) (ji40) p602 q602
                               cases e602
                               replace p602 := eq_true p602; replace q602 := eq_true q602
                               try go_wp2_with (first | ((with_reducible refine gate_dst (N := 12) rfl ?_); refine box_event ?hg (N := 12) ?hd (cs := #[.int .i64 0, .int .i64 0]) (t := 108) ?hr ?_; (case hd => rfl); (case hg => rfl); (case hr => first | (go_simp; done) | (go_simp; rfl)); intro gb603 hg w53 hbox hb; have n0_ := am_ (Kd.S_below (Kd.S_elderB (by (with_reducible repeat (first | apply Kd.S_alloc | apply Kd.S_drewN | apply Kd.S_drew)); exact HO_7.out) gb603 (Nat.le_of_eq hg.symm)) hb); have n1_ := am_ (Kd.R_below (Kd.R_elderB (by (with_reducible repeat (first | apply Kd.R_alloc | apply Kd.R_drewN | apply Kd.R_drew)); exact HL601_0.out) gb603 (Nat.le_of_eq hg.symm)) hb); have n2_ := am_ (Kd.C_below (by repeat (first | (with_reducible exact HR601_0.out) | (with_reducible refine Kd.C_alloc ?_ _) | (with_reducible refine Kd.C_drewN ?_ _) | (with_reducible refine Kd.C_drew ?_) | exact HR601_0.out)) hb); have n3_ := am_ (pw_cell_below hb HX601_0.out); have n4_ := am_ (bT_ (by repeat (first | (with_reducible first | exact HB.out | apply bA_ | apply bN_ | apply bD_) | exact HB.out)) hb); have n5_ := am_ (hbox); have n6_ := am_ ((by rw [hg]; exact (below_size (by repeat (first | (with_reducible first | exact HB.out | apply bA_ | apply bN_ | apply bD_) | exact HB.out))) : w.heap.size ≤ gb603)); have n7_ := n6_; clear HO_7; clear HL601_0; clear HR601_0; clear HX601_0; clear HB; have HO_7 := n0_; have HL601_0 := n1_; have HR601_0 := n2_; have HX601_0 := n3_; have HB := n4_; have BK603 := n5_; have GW603 := n6_; have GE603 := n7_; clear n0_ n1_ n2_ n3_ n4_ n5_ n6_ n7_; clear hb hbox hg; have hcz54_0 : w53.cell? ⟨gb603, 0, none⟩ = some (.int .i64 0) := (kC_ BK603.out 0).trans rfl; have hcz54_1 : w53.cell? ⟨gb603, 1, none⟩ = some (.int .i64 0) := (kC_ BK603.out 1).trans rfl; have hfz54_0 := kF_ BK603.out 0; have hfz54_1 := kF_ BK603.out 1) | ((with_reducible refine gate_store (t := 108) (p := 12) rfl ?_); refine store_event (t := 108) (p := 12) (v := ?vo_w55) (w1 := ((w53.setCell ⟨gb603, 0, none⟩ (.int .i64 ((rd_T108 (rd_L9 x7_3 (ji37)) (ji40)).f0))).setCell ⟨gb603, 1, none⟩ (.int .i64 ((rd_T108 (rd_L9 x7_3 (ji37)) (ji40)).f1)))) ?hg ?ho ?hn ?hr ?_; (case ho => rfl); (case hg => rfl); (case hn => rfl); (case hr => first | (go_simp; done) | (go_simp; rfl)); intro w55 hw; have n0_ : Aside0 (Kd.S (Kd.slice 108 k108) 109 w55 w.heap.size (fun k_ => k_ ≠ gb603) (.slice (some ⟨go15, 0, none⟩) x7_3.length co15) x7_3) := ⟨(by rw [hw]; exact (by (with_reducible repeat (first | apply Kd.S_alloc | apply Kd.S_drewN | apply Kd.S_drew)); exact Kd.S_mono (Kd.S_far (p := ⟨gb603, 1, none⟩) (Kd.S_far (p := ⟨gb603, 0, none⟩) (Kd.S_mono HO_7.out (fun k_ hk => (⟨hk, hk.2⟩ : _ ∧ k_ ≠ gb603))) (fun _ hk => hk.2) (.int .i64 ((rd_T108 (rd_L9 x7_3 (ji37)) (ji40)).f0))) (fun _ hk => hk.2) (.int .i64 ((rd_T108 (rd_L9 x7_3 (ji37)) (ji40)).f1))) (fun _ hk => hk.1.2)))⟩; have n1_ : Aside0 (Kd.R k108 108 w55 w.heap.size (fun k_ => some k_ ≠ (.slice (some ⟨go15, 0, none⟩) x7_3.length co15 : Value).ownBlock ∧ k_ ≠ gb603) (.slice (some ad602) (rd_L9 x7_3 (ji37)).length c601_0) (rd_L9 x7_3 (ji37))) := ⟨(by rw [hw]; exact (by (with_reducible repeat (first | apply Kd.R_alloc | apply Kd.R_drewN | apply Kd.R_drew)); exact Kd.R_mono (Kd.R_far (p := ⟨gb603, 1, none⟩) (Kd.R_far (p := ⟨gb603, 0, none⟩) (Kd.R_mono HL601_0.out (fun k_ hk => (⟨hk, hk.2⟩ : _ ∧ k_ ≠ gb603))) (fun _ hk => hk.2) (.int .i64 ((rd_T108 (rd_L9 x7_3 (ji37)) (ji40)).f0))) (fun _ hk => hk.2) (.int .i64 ((rd_T108 (rd_L9 x7_3 (ji37)) (ji40)).f1))) (fun _ hk => ⟨hk.1.1.2, hk.1.2⟩)))⟩; have n2_ : Aside0 (w55.heap[gb603]? = some (.cells #[.int .i64 ((rd_T108 (rd_L9 x7_3 (ji37)) (ji40)).f0), .int .i64 ((rd_T108 (rd_L9 x7_3 (ji37)) (ji40)).f1)] 108 (0, 0))) := ⟨(by rw [hw]; exact (by (with_reducible repeat (first | apply kN_ | apply kD_ | apply kA_)); refine blk_put (cs := #[.int .i64 ((rd_T108 (rd_L9 x7_3 (ji37)) (ji40)).f0), .int .i64 0]) ?_ 1 _ rfl; (with_reducible repeat (first | apply kN_ | apply kD_ | apply kA_)); refine blk_put (cs := #[.int .i64 0, .int .i64 0]) ?_ 0 _ rfl; (with_reducible repeat (first | apply kN_ | apply kD_ | apply kA_)); exact BK603.out))⟩; have n3_ : Aside0 (Below w.heap.size w w55) := ⟨(by rw [hw]; exact (by repeat (first | (with_reducible first | exact HB.out | apply bA_ | apply bN_ | apply bD_ | refine bS_ ?_ GE603.out) | exact HB.out)))⟩; clear hw; clear HO_7; clear HL601_0; clear BK603; clear HB; have HO_7 := n0_; have HL601_0 := n1_; have BK603 := n2_; have HB := n3_; clear n0_ n1_ n2_ n3_; have hcz56_0 : w55.cell? ⟨gb603, 0, none⟩ = some (.int .i64 ((rd_T108 (rd_L9 x7_3 (ji37)) (ji40)).f0)) := (kC_ BK603.out 0).trans rfl; have hcz56_1 : w55.cell? ⟨gb603, 1, none⟩ = some (.int .i64 ((rd_T108 (rd_L9 x7_3 (ji37)) (ji40)).f1)) := (kC_ BK603.out 1).trans rfl; have hfz56_0 := kF_ BK603.out 0; have hfz56_1 := kF_ BK603.out 1; have p604 : 0 ≤ (x8_1 : Int) := od_ (by first | (with_reducible assumption) | assumption); have q604 : x8_1 < (x7_3.length : Int) := od_ (by first | (with_reducible assumption) | assumption); obtain ⟨ad604, A604_0, c604_0, e604, hx604_0, hl604_0, hi604_0⟩ := at_L9 (Kd.S_reads' HO_7.out).2.2 x8_1 p604 q604; obtain rfl : (⟨go15, 0, none⟩ : Addr) = ad604 := (by injection e604); obtain ⟨ce604, hce604, hMe604, hcc604⟩ := Kd.S_get HO_7.out [] x8_1 p604 (by first | exact q604 | exact od_ (by first | (with_reducible assumption) | assumption) | (have e_ := (Kd.S_reads' HO_7.out).1; omega)); obtain ⟨ve604_0, rfl, ge604_0⟩ := hMe604; have hv604_0 := hcc604 0 _ rfl; rw [Nat.add_zero, show ((Kd.slice 108 k108)).sz = 1 from rfl, Nat.mul_one] at hv604_0; replace hv604_0 := Option.some.inj (hv604_0.symm.trans hx604_0); rw [hv604_0] at ge604_0; have HL604_0 := am_ (show Kd.R k108 108 _ _ _ _ (rd_L9 x7_3 x8_1) from ge604_0); clear hv604_0 ge604_0; have HX604_0 := am_ hx604_0; clear hcc604 hce604; (first | simp only [add_plain] at hx604_0 | simp only [add_at] at hx604_0 | simp only [Addr.add, Nat.zero_add] at hx604_0 | skip); have HR604_0 := am_ hi604_0; have HC604_0 := am_ hl604_0; clear hi604_0 hl604_0; replace p604 := eq_true p604; replace q604 := eq_true q604; have p605 : 0 ≤ (x53_2 : Int) := od_ (by first | (with_reducible assumption) | assumption); have q605 : x53_2 < ((rd_L9 x7_3 x8_1).length : Int) := od_ (by first | (with_reducible assumption) | assumption); obtain ⟨ad605, e605, hx605_0, hx605_1⟩ := at_T108 (by repeat (first | (with_reducible exact HR604_0.out) | (with_reducible refine Kd.C_alloc ?_ _) | (with_reducible refine Kd.C_drewN ?_ _) | (with_reducible refine Kd.C_drew ?_) | exact HR604_0.out)) x53_2 p605 q605; cases e605; replace p605 := eq_true p605; replace q605 := eq_true q605) | ((with_reducible refine gate_dst (N := 13) rfl ?_); refine box_event ?hg (N := 13) ?hd (cs := #[.int .i64 0, .int .i64 0]) (t := 108) ?hr ?_; (case hd => rfl); (case hg => rfl); (case hr => first | (go_simp; done) | (go_simp; rfl)); intro gb606 hg w57 hbox hb; have n0_ := am_ (Kd.S_below (Kd.S_elderB (by (with_reducible repeat (first | apply Kd.S_alloc | apply Kd.S_drewN | apply Kd.S_drew)); exact HO_7.out) gb606 (Nat.le_of_eq hg.symm)) hb); have n1_ := am_ (Kd.R_below (Kd.R_elderB (by (with_reducible repeat (first | apply Kd.R_alloc | apply Kd.R_drewN | apply Kd.R_drew)); exact HL601_0.out) gb606 (Nat.le_of_eq hg.symm)) hb); have n2_ := am_ (Kd.R_below (Kd.R_elderB (by (with_reducible repeat (first | apply Kd.R_alloc | apply Kd.R_drewN | apply Kd.R_drew)); exact HL604_0.out) gb606 (Nat.le_of_eq hg.symm)) hb); have n3_ := am_ (blk_below (g := gb603) (o := .cells #[.int .i64 ((rd_T108 (rd_L9 x7_3 (ji37)) (ji40)).f0), .int .i64 ((rd_T108 (rd_L9 x7_3 (ji37)) (ji40)).f1)] 108 (0, 0)) (by (with_reducible repeat (first | apply kN_ | apply kD_ | apply kA_)); exact BK603.out) hb); have n4_ := am_ (Kd.C_below (by repeat (first | (with_reducible exact HR604_0.out) | (with_reducible refine Kd.C_alloc ?_ _) | (with_reducible refine Kd.C_drewN ?_ _) | (with_reducible refine Kd.C_drew ?_) | exact HR604_0.out)) hb); have n5_ := am_ (pw_cell_below hb HX604_0.out); have n6_ := am_ (bT_ (by repeat (first | (with_reducible first | exact HB.out | apply bA_ | apply bN_ | apply bD_ | refine bS_ ?_ GE603.out) | exact HB.out)) hb); have n7_ := am_ (hbox); have n8_ := am_ ((by rw [hg]; exact (below_size (by repeat (first | (with_reducible first | exact HB.out | apply bA_ | apply bN_ | apply bD_ | refine bS_ ?_ GE603.out) | exact HB.out))) : w.heap.size ≤ gb606)); have n9_ := n8_; have n10_ := am_ ((by rw [hg]; exact Nat.ne_of_lt (blk_lt (g := gb603) (o := .cells #[.int .i64 ((rd_T108 (rd_L9 x7_3 (ji37)) (ji40)).f0), .int .i64 ((rd_T108 (rd_L9 x7_3 (ji37)) (ji40)).f1)] 108 (0, 0)) (by (with_reducible repeat (first | apply kN_ | apply kD_ | apply kA_)); exact BK603.out)) : gb603 ≠ gb606)); have n11_ := am_ ((by rw [hg]; exact Nat.ne_of_gt (blk_lt (g := gb603) (o := .cells #[.int .i64 ((rd_T108 (rd_L9 x7_3 (ji37)) (ji40)).f0), .int .i64 ((rd_T108 (rd_L9 x7_3 (ji37)) (ji40)).f1)] 108 (0, 0)) (by (with_reducible repeat (first | apply kN_ | apply kD_ | apply kA_)); exact BK603.out)) : gb606 ≠ gb603)); clear HO_7; clear HL601_0; clear HL604_0; clear BK603; clear HR604_0; clear HX604_0; clear HB; have HO_7 := n0_; have HL601_0 := n1_; have HL604_0 := n2_; have BK603 := n3_; have HR604_0 := n4_; have HX604_0 := n5_; have HB := n6_; have BK606 := n7_; have GW606 := n8_; have GE606 := n9_; have NB603_606 := n10_; have NB606_603 := n11_; clear n0_ n1_ n2_ n3_ n4_ n5_ n6_ n7_ n8_ n9_ n10_ n11_; clear hb hbox hg; have hnb58 := NB606_603.out; have hnc58 := NB603_606.out; have hcz59_0 : w57.cell? ⟨gb606, 0, none⟩ = some (.int .i64 0) := (kC_ BK606.out 0).trans rfl; have hcz59_1 : w57.cell? ⟨gb606, 1, none⟩ = some (.int .i64 0) := (kC_ BK606.out 1).trans rfl; have hfz59_0 := kF_ BK606.out 0; have hfz59_1 := kF_ BK606.out 1))
                               have n0_ : Aside0 (Kd.S (Kd.slice 108 k108) 109 ((w57.setCell ⟨gb606, 0, none⟩ (.int .i64 ((rd_T108 (rd_L9 x7_3 x8_1) x53_2).f0))).setCell ⟨gb606, 1, none⟩ (.int .i64 ((rd_T108 (rd_L9 x7_3 x8_1) x53_2).f1))) w.heap.size (fun k_ => k_ ≠ gb603 ∧ k_ ≠ gb606) (.slice (some ⟨go15, 0, none⟩) x7_3.length co15) x7_3) := ⟨by (with_reducible repeat (first | apply Kd.S_alloc | apply Kd.S_drewN | apply Kd.S_drew)); exact Kd.S_mono (Kd.S_far (p := ⟨gb606, 1, none⟩) (Kd.S_far (p := ⟨gb606, 0, none⟩) (Kd.S_mono HO_7.out (fun k_ hk => (⟨hk, hk.2⟩ : _ ∧ k_ ≠ gb606))) (fun _ hk => hk.2) (.int .i64 ((rd_T108 (rd_L9 x7_3 x8_1) x53_2).f0))) (fun _ hk => hk.2) (.int .i64 ((rd_T108 (rd_L9 x7_3 x8_1) x53_2).f1))) (fun _ hk => ⟨hk.1.1, hk.1.2⟩)⟩
                               have n1_ : Aside0 (Kd.R k108 108 ((w57.setCell ⟨gb606, 0, none⟩ (.int .i64 ((rd_T108 (rd_L9 x7_3 x8_1) x53_2).f0))).setCell ⟨gb606, 1, none⟩ (.int .i64 ((rd_T108 (rd_L9 x7_3 x8_1) x53_2).f1))) w.heap.size (fun k_ => some k_ ≠ (.slice (some ⟨go15, 0, none⟩) x7_3.length co15 : Value).ownBlock ∧ k_ ≠ gb603 ∧ k_ ≠ gb606) (.slice (some ad602) (rd_L9 x7_3 (ji37)).length c601_0) (rd_L9 x7_3 (ji37))) := ⟨by (with_reducible repeat (first | apply Kd.R_alloc | apply Kd.R_drewN | apply Kd.R_drew)); exact Kd.R_mono (Kd.R_far (p := ⟨gb606, 1, none⟩) (Kd.R_far (p := ⟨gb606, 0, none⟩) (Kd.R_mono HL601_0.out (fun k_ hk => (⟨hk, hk.2⟩ : _ ∧ k_ ≠ gb606))) (fun _ hk => hk.2) (.int .i64 ((rd_T108 (rd_L9 x7_3 x8_1) x53_2).f0))) (fun _ hk => hk.2) (.int .i64 ((rd_T108 (rd_L9 x7_3 x8_1) x53_2).f1))) (fun _ hk => ⟨hk.1.1.1, ⟨hk.1.1.2, hk.1.2⟩⟩)⟩
                               have n2_ : Aside0 (Kd.R k108 108 ((w57.setCell ⟨gb606, 0, none⟩ (.int .i64 ((rd_T108 (rd_L9 x7_3 x8_1) x53_2).f0))).setCell ⟨gb606, 1, none⟩ (.int .i64 ((rd_T108 (rd_L9 x7_3 x8_1) x53_2).f1))) w.heap.size (fun k_ => some k_ ≠ (.slice (some ⟨go15, 0, none⟩) x7_3.length co15 : Value).ownBlock ∧ k_ ≠ gb603 ∧ k_ ≠ gb606) (.slice (some ad605) (rd_L9 x7_3 x8_1).length c604_0) (rd_L9 x7_3 x8_1)) := ⟨by (with_reducible repeat (first | apply Kd.R_alloc | apply Kd.R_drewN | apply Kd.R_drew)); exact Kd.R_mono (Kd.R_far (p := ⟨gb606, 1, none⟩) (Kd.R_far (p := ⟨gb606, 0, none⟩) (Kd.R_mono HL604_0.out (fun k_ hk => (⟨hk, hk.2⟩ : _ ∧ k_ ≠ gb606))) (fun _ hk => hk.2) (.int .i64 ((rd_T108 (rd_L9 x7_3 x8_1) x53_2).f0))) (fun _ hk => hk.2) (.int .i64 ((rd_T108 (rd_L9 x7_3 x8_1) x53_2).f1))) (fun _ hk => ⟨hk.1.1.2, ⟨hk.1.1.1, hk.1.2⟩⟩)⟩
                               have n3_ : Aside0 (((w57.setCell ⟨gb606, 0, none⟩ (.int .i64 ((rd_T108 (rd_L9 x7_3 x8_1) x53_2).f0))).setCell ⟨gb606, 1, none⟩ (.int .i64 ((rd_T108 (rd_L9 x7_3 x8_1) x53_2).f1))).heap[gb603]? = some (.cells #[.int .i64 ((rd_T108 (rd_L9 x7_3 (ji37)) (ji40)).f0), .int .i64 ((rd_T108 (rd_L9 x7_3 (ji37)) (ji40)).f1)] 108 (0, 0))) := ⟨by (with_reducible repeat (first | apply kN_ | apply kD_ | apply kA_)); refine blk_far ?_ NB603_606.out _; (with_reducible repeat (first | apply kN_ | apply kD_ | apply kA_)); refine blk_far ?_ NB603_606.out _; (with_reducible repeat (first | apply kN_ | apply kD_ | apply kA_)); exact BK603.out⟩
                               have n4_ : Aside0 (((w57.setCell ⟨gb606, 0, none⟩ (.int .i64 ((rd_T108 (rd_L9 x7_3 x8_1) x53_2).f0))).setCell ⟨gb606, 1, none⟩ (.int .i64 ((rd_T108 (rd_L9 x7_3 x8_1) x53_2).f1))).heap[gb606]? = some (.cells #[.int .i64 ((rd_T108 (rd_L9 x7_3 x8_1) x53_2).f0), .int .i64 ((rd_T108 (rd_L9 x7_3 x8_1) x53_2).f1)] 108 (0, 0))) := ⟨by (with_reducible repeat (first | apply kN_ | apply kD_ | apply kA_)); refine blk_put (cs := #[.int .i64 ((rd_T108 (rd_L9 x7_3 x8_1) x53_2).f0), .int .i64 0]) ?_ 1 _ rfl; (with_reducible repeat (first | apply kN_ | apply kD_ | apply kA_)); refine blk_put (cs := #[.int .i64 0, .int .i64 0]) ?_ 0 _ rfl; (with_reducible repeat (first | apply kN_ | apply kD_ | apply kA_)); exact BK606.out⟩
                               have n5_ : Aside0 (Below w.heap.size w ((w57.setCell ⟨gb606, 0, none⟩ (.int .i64 ((rd_T108 (rd_L9 x7_3 x8_1) x53_2).f0))).setCell ⟨gb606, 1, none⟩ (.int .i64 ((rd_T108 (rd_L9 x7_3 x8_1) x53_2).f1)))) := ⟨by repeat (first | (with_reducible first | exact HB.out | apply bA_ | apply bN_ | apply bD_ | refine bS_ ?_ GE603.out | refine bS_ ?_ GE606.out) | exact HB.out)⟩
                               (try clear HO_7); (try clear HL601_0); (try clear HL604_0); (try clear BK603); (try clear BK606); (try clear HB); generalize ((w57.setCell ⟨gb606, 0, none⟩ (.int .i64 ((rd_T108 (rd_L9 x7_3 x8_1) x53_2).f0))).setCell ⟨gb606, 1, none⟩ (.int .i64 ((rd_T108 (rd_L9 x7_3 x8_1) x53_2).f1))) = w60 at n0_ n1_ n2_ n3_ n4_ n5_ ⊢; have HO_7 := n0_; have HL601_0 := n1_; have HL604_0 := n2_; have BK603 := n3_; have BK606 := n4_; have HB := n5_; clear n0_ n1_ n2_ n3_ n4_ n5_; have n0_ := am_ (Kd.S_drew HO_7.out); have n1_ := am_ (Kd.R_drew HL601_0.out); have n2_ := am_ (Kd.R_drew HL604_0.out); have n3_ := am_ (kD_ BK603.out); have n4_ := am_ (kD_ BK606.out); have n5_ := am_ (bD_ HB.out); clear HO_7; clear HL601_0; clear HL604_0; clear BK603; clear BK606; clear HB; have HO_7 := n0_; have HL601_0 := n1_; have HL604_0 := n2_; have BK603 := n3_; have BK606 := n4_; have HB := n5_; clear n0_ n1_ n2_ n3_ n4_ n5_; have p607 : 0 ≤ (x8_1 : Int) := od_ (by first | (with_reducible assumption) | assumption); have q607 : x8_1 < (x7_3.length : Int) := od_ (by first | (with_reducible assumption) | assumption); obtain ⟨ad607, A607_0, c607_0, e607, hx607_0, hl607_0, hi607_0⟩ := at_L9 (Kd.S_reads' HO_7.out).2.2 x8_1 p607 q607; obtain rfl : (⟨go15, 0, none⟩ : Addr) = ad607 := (by injection e607)
                               obtain ⟨ce607, hce607, hMe607, hcc607⟩ := Kd.S_get HO_7.out [] x8_1 p607 (by first | exact q607 | exact od_ (by first | (with_reducible assumption) | assumption) | (have e_ := (Kd.S_reads' HO_7.out).1; omega)); obtain ⟨ve607_0, rfl, ge607_0⟩ := hMe607; have hv607_0 := hcc607 0 _ rfl; rw [Nat.add_zero, show ((Kd.slice 108 k108)).sz = 1 from rfl, Nat.mul_one] at hv607_0; replace hv607_0 := Option.some.inj (hv607_0.symm.trans hx607_0); rw [hv607_0] at ge607_0; have HL607_0 := am_ (show Kd.R k108 108 _ _ _ _ (rd_L9 x7_3 x8_1) from ge607_0); clear hv607_0 ge607_0; have HX607_0 := am_ hx607_0; clear hcc607 hce607
                               (first | simp only [add_plain] at hx607_0 | simp only [add_at] at hx607_0 | simp only [Addr.add, Nat.zero_add] at hx607_0 | skip)
                               have HR607_0 := am_ hi607_0; have HC607_0 := am_ hl607_0; clear hi607_0 hl607_0; replace p607 := eq_true p607; replace q607 := eq_true q607; have p50 : 0 ≤ (x53_2 : Int) := od_ (by first | (with_reducible assumption) | assumption); have q50 : (x53_2 : Int) < (((rd_L9 x7_3 x8_1).length : Int) : Int) := od_ (by first | (with_reducible assumption) | assumption); obtain ⟨go50, co50, eo50, gb50, gl50, cl50, HG50⟩ := Kd.R_form HL607_0.out (by omega)
                               (first | cases eo50 | (injection eo50 with ea_ en_ ec_; (first | subst ea_ | (injection ea_ with ea_; subst ea_)); subst ec_; clear en_))
                               have GB50 := am_ gb50; have GG50 := am_ HG50; clear gb50 gl50 HG50; obtain ⟨ce50, hcl50, hM50, hcc50, hfr50⟩ := Kd.R_elem HL607_0.out z108 (x53_2 : Int) p50 q50; obtain rfl := k108_openM hM50; have hx50_0 : World.cell? _ ⟨go50, (x53_2 : Int).toNat * 2, none⟩ = some (.int .i64 ((rd_T108 (rd_L9 x7_3 x8_1) x53_2).f0)) := hcc50 0 _ rfl; have hx50_1 : World.cell? _ ⟨go50, (x53_2 : Int).toNat * 2 + 1, none⟩ = some (.int .i64 ((rd_T108 (rd_L9 x7_3 x8_1) x53_2).f1)) := hcc50 1 _ rfl; have hf50_0 : World.frozen? _ ⟨go50, (x53_2 : Int).toNat * 2, none⟩ = false := hfr50 0; have hf50_1 : World.frozen? _ ⟨go50, (x53_2 : Int).toNat * 2 + 1, none⟩ = false := hfr50 1; clear hcl50 hcc50 hfr50; (try clear hM50); replace p50 := eq_true p50; replace q50 := eq_true q50; have hq62 : (x8_1 : Int) < (x7_3.length : Int) := (by have h_ : (x8_1 : Int) < ((x7_3.length : Int) : Int) := od_ (by first | (with_reducible assumption) | assumption); first | exact h_ | (have e_ := (Kd.S_reads' HO_7.out).1; omega) | simpa only [List.length_set, List.length_set] using h_)
                               obtain ⟨oki62, ce62, hcl62, hM62, hcc62, hok62, hbk62⟩ := Kd.S_borrow HO_7.out [] (x8_1 : Int) (od_ (by first | (with_reducible assumption) | assumption)) (by first | exact hq62 | (have e_ := (Kd.S_reads' HO_7.out).1; omega)); obtain ⟨ve62_0, rfl, ge62_0⟩ := hM62; have hv62 := hcc62 0 _ rfl; rw [Nat.add_zero, show ((Kd.slice 108 k108)).sz = 1 from rfl, Nat.mul_one] at hv62; replace hv62 := Option.some.inj (hv62.symm.trans HX607_0.out); subst hv62; clear hcc62 hcl62; replace ge62_0 := (show Kd.R k108 108 _ _ _ _ (rd_L9 x7_3 x8_1) from ge62_0)
                               obtain ⟨cf62, hcl62, hN62, hcc62, hfr62⟩ := Kd.R_elem ge62_0 z108 (x53_2 : Int) (od_ (by first | (with_reducible assumption) | assumption)) (by have h_ : (x53_2 : Int) < (((rd_L9 x7_3 x8_1).length : Int) : Int) := od_ (by first | (with_reducible assumption) | assumption); first | exact h_ | (have e_ := (Kd.R_reads' HR607_0.out).1; omega) | simpa using h_); obtain rfl := k108_openM hN62; have HP62 := Kd.R_seg ge62_0 (x53_2 : Int) (od_ (by first | (with_reducible assumption) | assumption)) (by have h_ : (x53_2 : Int) < (((rd_L9 x7_3 x8_1).length : Int) : Int) := od_ (by first | (with_reducible assumption) | assumption); first | exact h_ | (have e_ := (Kd.R_reads' HR607_0.out).1; omega) | simpa using h_) (seg := [.int .i64 (wrap64 (((rd_T108 (rd_L9 x7_3 (ji37)) (ji40)).f1) + x11_3))]) (j := 1) hcl62 hcc62 (show 2 ≤ 2 from by decide) (x' := (⟨(rd_T108 (rd_L9 x7_3 x8_1) x53_2).f0, wrap64 (((rd_T108 (rd_L9 x7_3 (ji37)) (ji40)).f1) + x11_3)⟩ : S108)) (k108_mkM _ _ _ (⟨(rd_T108 (rd_L9 x7_3 x8_1) x53_2).f0, wrap64 (((rd_T108 (rd_L9 x7_3 (ji37)) (ji40)).f1) + x11_3)⟩ : S108)) (fun _ hk => hk); clear hcl62 hcc62 hfr62; (try clear hN62); rw [← Ny608.out] at HP62; have HS62 := hbk62 HP62.2 (fun k_ e_ => by injection e_ with e_; subst e_; exact ge62_0.1 _ rfl) (x' := y608) (Kd.M_row HP62.1); rw [← Ny610.out] at HS62; have HQ62 := am_ HS62; clear HP62 HS62 hbk62 hok62; refine start_ (n := 12) (S := fun w' => w'.cell? ⟨gb603, 0, none⟩ = some (.int .i64 ((rd_T108 (rd_L9 x7_3 (ji37)) (ji40)).f0)) ∧ w'.cell? ⟨gb603, 1, none⟩ = some (.int .i64 ((rd_T108 (rd_L9 x7_3 (ji37)) (ji40)).f1)) ∧ w'.cell? ⟨go15, (x8_1).toNat, none⟩ = some (.slice (some ⟨go50, 0, none⟩) (rd_L9 x7_3 x8_1).length c607_0)) (ds := [11]) (mB_ 12 0) (by kernel_rfl) rfl rfl ⟨(kC_ BK603.out 0).trans rfl, (kC_ BK603.out 1).trans rfl, hx607_0⟩ (fun hHeld => ?_); refine with_tabW impl_fillings.tab19 impl_fillings.bits19 (fun HT_ HW_ => ?_); generalize w60.drew = w61 at HO_7 HL601_0 HL604_0 BK603 BK606 HB GG50 HL607_0 HQ62 HR607_0 HX607_0 hf50_0 hf50_1 hx50_0 hx50_1 hx607_0 hHeld ⊢; refine pure_ (i := 0) (N := some 107) (v := ?_) (a' := ?_) (mB_ 12 1) rfl rfl (any_of HT_.out (by kernel_rfl)) (fun _ _ _ h => h) (Or.inl ⟨by rfl, ?_⟩) ?_ ?_; rotate_left
                               ·
                                intro w'
                                go_simp
                                with_reducible rfl
                               rotate_left
                               ·
                                simp only [Act.put, z1_, z2_, z3_, i64_w, i32_w]
                                rfl
                               refine pure_ (i := 1) (N := some 108) (v := ?_) (a' := ?_) (mB_ 12 3) rfl rfl (any_of HT_.out (by kernel_rfl)) (fun _ _ _ h => h) (Or.inl ⟨by rfl, ?_⟩) ?_ ?_; rotate_left
                               ·
                                intro w'
                                go_simp
                                with_reducible rfl
                               rotate_left
                               ·
                                simp only [Act.put, z1_, z2_, z3_, i64_w, i32_w]
                                rfl
                               refine pure_ (i := 2) (N := some 109) (v := ?_) (a' := ?_) (mB_ 12 7) rfl rfl (any_of HT_.out (by kernel_rfl)) (fun _ _ _ h => h) (Or.inl ⟨by rfl, ?_⟩) ?_ ?_; rotate_left
                               ·
                                intro w'
                                go_simp
                                with_reducible rfl
                               rotate_left
                               ·
                                simp only [Act.put, z1_, z2_, z3_, i64_w, i32_w]
                                rfl
                               refine pure_ (i := 4) (N := some 111) (v := ?_) (a' := ?_) (mB_ 12 23) rfl rfl (any_of HT_.out (by kernel_rfl)) (fun _ _ _ h => h) (Or.inl ⟨by rfl, ?_⟩) ?_ ?_; rotate_left
                               ·
                                intro w'
                                go_simp
                                with_reducible rfl
                               rotate_left
                               ·
                                simp only [Act.put, z1_, z2_, z3_, i64_w, i32_w]
                                rfl
                               refine pure_ (i := 5) (N := some 112) (v := ?_) (a' := ?_) (mB_ 12 55) rfl rfl (any_of HT_.out (by kernel_rfl)) (fun _ _ _ h => h) (Or.inl ⟨by rfl, ?_⟩) ?_ ?_; rotate_left
                               ·
                                intro w'
                                go_simp
                                with_reducible rfl
                               rotate_left
                               ·
                                simp only [Act.put, z1_, z2_, z3_, i64_w, i32_w]
                                rfl
                               refine pure_ (i := 7) (N := some 114) (v := ?_) (a' := ?_) (mB_ 12 183) rfl rfl (any_of HT_.out (by kernel_rfl)) (fun _ _ _ h => h) (Or.inl ⟨by rfl, ?_⟩) ?_ ?_; rotate_left
                               ·
                                intro w'
                                go_simp
                                with_reducible rfl
                               rotate_left
                               ·
                                simp only [Act.put, z1_, z2_, z3_, i64_w, i32_w]
                                rfl
                               refine take_ (i := 3) (N := some 110) (v := ?_) (a' := ?_) (mB_ 12 191) rfl rfl (take_ofW HT_.out HW_.out (by kernel_rfl)) (fun _ _ _ h => h) (Or.inl ⟨by rfl, ?_⟩) hHeld ?_ ?_; rotate_left
                               ·
                                rintro w' ⟨s0, s1, s2⟩
                                go_simp
                                with_reducible rfl
                               rotate_left
                               ·
                                simp only [Act.put, z1_, z2_, z3_, i64_w, i32_w]
                                rfl
                               refine take_ (i := 6) (N := some 113) (v := ?_) (a' := ?_) (mB_ 12 255) rfl rfl (take_ofW HT_.out HW_.out (by kernel_rfl)) (fun _ _ _ h => h) (Or.inl ⟨by rfl, ?_⟩) hHeld ?_ ?_; rotate_left
                               ·
                                rintro w' ⟨s0, s1, s2⟩
                                go_simp
                                with_reducible rfl
                               rotate_left
                               ·
                                simp only [Act.put, z1_, z2_, z3_, i64_w, i32_w]
                                rfl
                               refine pure_ (i := 8) (N := some 115) (v := ?_) (a' := ?_) (mB_ 12 511) rfl rfl (any_of HT_.out (by kernel_rfl)) (fun _ _ _ h => h) (Or.inl ⟨by rfl, ?_⟩) ?_ ?_; rotate_left
                               ·
                                intro w'
                                go_simp
                                with_reducible rfl
                               rotate_left
                               ·
                                simp only [Act.put, z1_, z2_, z3_, i64_w, i32_w]
                                rfl
                               refine pure_ (i := 9) (N := some 116) (v := ?_) (a' := ?_) (mB_ 12 1023) rfl rfl (any_of HT_.out (by kernel_rfl)) (fun _ _ _ h => h) (Or.inl ⟨by rfl, ?_⟩) ?_ ?_; rotate_left
                               ·
                                intro w'
                                go_simp
                                with_reducible rfl
                               rotate_left
                               ·
                                simp only [Act.put, z1_, z2_, z3_, i64_w, i32_w]
                                rfl
                               refine pure_ (i := 10) (N := some 117) (v := ?_) (a' := ?_) (mB_ 12 2047) rfl rfl (any_of HT_.out (by kernel_rfl)) (fun _ _ _ h => h) (Or.inl ⟨by rfl, ?_⟩) ?_ ?_; rotate_left
                               ·
                                intro w'
                                go_simp
                                with_reducible rfl
                               rotate_left
                               ·
                                simp only [Act.put, z1_, z2_, z3_, i64_w, i32_w]
                                rfl
                               refine last_ (i := 11) (N := none) (mB_ 12 4095) rfl rfl (one_of HT_.out (by kernel_rfl)) (by decide) (fun K hK => ?_); refine skip_ (w1 := ?_) (by rfl) rfl ?_ ?_; rotate_left
                               ·
                                go_simp
                                rfl
                               refine hK.out _ _ ?_; clear hK K; refine done_ (done_of HT_.out (by kernel_rfl)) ?_
                               try go_wp2
                               have n0_ : Aside0 (Kd.S (Kd.slice 108 k108) 109 (w61.setCell ⟨go50, (x53_2 : Int).toNat * 2 + 1, none⟩ (.int .i64 (wrap64 (((rd_T108 (rd_L9 x7_3 (ji37)) (ji40)).f1) + x11_3)))) w.heap.size (fun k_ => k_ ≠ gb603 ∧ k_ ≠ gb606) (.slice (some ⟨go15, 0, none⟩) x7_3.length co15) y610) := ⟨by (with_reducible repeat (first | apply Kd.S_alloc | apply Kd.S_drewN | apply Kd.S_drew)); exact HQ62.out⟩
                               have n1_ : Aside0 ((w61.setCell ⟨go50, (x53_2 : Int).toNat * 2 + 1, none⟩ (.int .i64 (wrap64 (((rd_T108 (rd_L9 x7_3 (ji37)) (ji40)).f1) + x11_3)))).heap[gb603]? = some (.cells #[.int .i64 ((rd_T108 (rd_L9 x7_3 (ji37)) (ji40)).f0), .int .i64 ((rd_T108 (rd_L9 x7_3 (ji37)) (ji40)).f1)] 108 (0, 0))) := ⟨by (with_reducible repeat (first | apply kN_ | apply kD_ | apply kA_)); refine blk_far ?_ (by have h_ := Kd.R_away HL607_0.out (fun _ hk => hk.1.1); intro e_; exact h_ (by rw [e_]; rfl)) _; (with_reducible repeat (first | apply kN_ | apply kD_ | apply kA_)); exact BK603.out⟩
                               have n2_ : Aside0 ((w61.setCell ⟨go50, (x53_2 : Int).toNat * 2 + 1, none⟩ (.int .i64 (wrap64 (((rd_T108 (rd_L9 x7_3 (ji37)) (ji40)).f1) + x11_3)))).heap[gb606]? = some (.cells #[.int .i64 ((rd_T108 (rd_L9 x7_3 x8_1) x53_2).f0), .int .i64 ((rd_T108 (rd_L9 x7_3 x8_1) x53_2).f1)] 108 (0, 0))) := ⟨by (with_reducible repeat (first | apply kN_ | apply kD_ | apply kA_)); refine blk_far ?_ (by have h_ := Kd.R_away HL607_0.out (fun _ hk => hk.1.2); intro e_; exact h_ (by rw [e_]; rfl)) _; (with_reducible repeat (first | apply kN_ | apply kD_ | apply kA_)); exact BK606.out⟩
                               have n3_ : Aside0 (Below w.heap.size w (w61.setCell ⟨go50, (x53_2 : Int).toNat * 2 + 1, none⟩ (.int .i64 (wrap64 (((rd_T108 (rd_L9 x7_3 (ji37)) (ji40)).f1) + x11_3))))) := ⟨by repeat (first | (with_reducible first | exact HB.out | apply bA_ | apply bN_ | apply bD_ | refine bS_ ?_ GB50.out | refine bS_ ?_ GE603.out | refine bS_ ?_ GE606.out) | exact HB.out)⟩
                               (try clear HO_7); (try clear BK603); (try clear BK606); (try clear HB); generalize (w61.setCell ⟨go50, (x53_2 : Int).toNat * 2 + 1, none⟩ (.int .i64 (wrap64 (((rd_T108 (rd_L9 x7_3 (ji37)) (ji40)).f1) + x11_3)))) = w64 at n0_ n1_ n2_ n3_ ⊢; have HO_7 := n0_; have BK603 := n1_; have BK606 := n2_; have HB := n3_; clear n0_ n1_ n2_ n3_; have n0_ := am_ (Kd.S_drew HO_7.out); have n1_ := am_ (kD_ BK603.out); have n2_ := am_ (kD_ BK606.out); have n3_ := am_ (bD_ HB.out); clear HO_7; clear BK603; clear BK606; clear HB; have HO_7 := n0_; have BK603 := n1_; have BK606 := n2_; have HB := n3_; clear n0_ n1_ n2_ n3_; have p611 : 0 ≤ (x8_1 : Int) := od_ (by first | (with_reducible assumption) | assumption); have q611 : x8_1 < (y610.length : Int) := (by have h_ : (x8_1 : Int) < ((x7_3.length : Int) : Int) := od_ (by first | (with_reducible assumption) | assumption); first | (have e_ := (Kd.S_reads' HO_7.out).1; omega) | simpa only [Ny610.out, List.length_set] using h_)
                               have ql611 : ((x8_1 : Int) < ((x7_3.length : Int) : Int)) = True := eq_true (od_ (by first | (with_reducible assumption) | assumption)); obtain ⟨ad611, A611_0, c611_0, e611, hx611_0, hl611_0, hi611_0⟩ := at_L9 (Kd.S_reads' HO_7.out).2.2 x8_1 p611 q611; obtain rfl : (⟨go15, 0, none⟩ : Addr) = ad611 := (by injection e611)
                               obtain ⟨ce611, hce611, hMe611, hcc611⟩ := Kd.S_get HO_7.out [] x8_1 p611 (by first | exact q611 | exact od_ (by first | (with_reducible assumption) | assumption) | (have e_ := (Kd.S_reads' HO_7.out).1; omega)); obtain ⟨ve611_0, rfl, ge611_0⟩ := hMe611; have hv611_0 := hcc611 0 _ rfl; rw [Nat.add_zero, show ((Kd.slice 108 k108)).sz = 1 from rfl, Nat.mul_one] at hv611_0; replace hv611_0 := Option.some.inj (hv611_0.symm.trans hx611_0); rw [hv611_0] at ge611_0; have HL611_0 := am_ (show Kd.R k108 108 _ _ _ _ (rd_L9 y610 x8_1) from ge611_0); clear hv611_0 ge611_0; have HX611_0 := am_ hx611_0; clear hcc611 hce611
                               (first | simp only [add_plain] at hx611_0 | simp only [add_at] at hx611_0 | simp only [Addr.add, Nat.zero_add] at hx611_0 | skip)
                               have HR611_0 := am_ hi611_0; have HC611_0 := am_ hl611_0; clear hi611_0 hl611_0; replace p611 := eq_true p611; replace q611 := eq_true q611; have p612 : 0 ≤ (x53_2 : Int) := od_ (by first | (with_reducible assumption) | assumption); have q612 : x53_2 < ((rd_L9 y610 x8_1).length : Int) := od_ (by first | (with_reducible assumption) | assumption); obtain ⟨ad612, e612, hx612_0, hx612_1⟩ := at_T108 (by repeat (first | (with_reducible exact HR611_0.out) | (with_reducible refine Kd.C_alloc ?_ _) | (with_reducible refine Kd.C_drewN ?_ _) | (with_reducible refine Kd.C_drew ?_) | exact HR611_0.out)) x53_2 p612 q612
                               cases e612
                               replace p612 := eq_true p612; replace q612 := eq_true q612; have p52 : 0 ≤ (x53_2 : Int) := od_ (by first | (with_reducible assumption) | assumption); have q52 : (x53_2 : Int) < (((rd_L9 y610 x8_1).length : Int) : Int) := od_ (by first | (with_reducible assumption) | assumption); obtain ⟨go52, co52, eo52, gb52, gl52, cl52, HG52⟩ := Kd.R_form HL611_0.out (by omega)
                               (first | cases eo52 | (injection eo52 with ea_ en_ ec_; (first | subst ea_ | (injection ea_ with ea_; subst ea_)); subst ec_; clear en_))
                               have GB52 := am_ gb52; have GG52 := am_ HG52; clear gb52 gl52 HG52
                               (first | simp only [add_plain] at hx612_0 | skip)
                               (first | simp only [add_plain] at hx612_1 | skip)
                               obtain ⟨ce52, hcl52, hM52, hcc52, hfr52⟩ := Kd.R_elem HL611_0.out z108 (x53_2 : Int) p52 q52; obtain rfl := k108_openM hM52; have hx52_0 : World.cell? _ ⟨go52, (x53_2 : Int).toNat * 2, none⟩ = some (.int .i64 ((rd_T108 (rd_L9 y610 x8_1) x53_2).f0)) := hcc52 0 _ rfl; have hx52_1 : World.cell? _ ⟨go52, (x53_2 : Int).toNat * 2 + 1, none⟩ = some (.int .i64 ((rd_T108 (rd_L9 y610 x8_1) x53_2).f1)) := hcc52 1 _ rfl; have hf52_0 : World.frozen? _ ⟨go52, (x53_2 : Int).toNat * 2, none⟩ = false := hfr52 0; have hf52_1 : World.frozen? _ ⟨go52, (x53_2 : Int).toNat * 2 + 1, none⟩ = false := hfr52 1; clear hcl52 hcc52 hfr52; (try clear hM52); replace p52 := eq_true p52; replace q52 := eq_true q52; have hq66 : (x8_1 : Int) < (y610.length : Int) := (by have h_ : (x8_1 : Int) < ((x7_3.length : Int) : Int) := od_ (by first | (with_reducible assumption) | assumption); first | exact h_ | (have e_ := (Kd.S_reads' HO_7.out).1; omega) | simpa only [Ny610.out, List.length_set] using h_)
                               obtain ⟨oki66, ce66, hcl66, hM66, hcc66, hok66, hbk66⟩ := Kd.S_borrow HO_7.out [] (x8_1 : Int) (od_ (by first | (with_reducible assumption) | assumption)) (by first | exact hq66 | (have e_ := (Kd.S_reads' HO_7.out).1; omega)); obtain ⟨ve66_0, rfl, ge66_0⟩ := hM66; have hv66 := hcc66 0 _ rfl; rw [Nat.add_zero, show ((Kd.slice 108 k108)).sz = 1 from rfl, Nat.mul_one] at hv66; replace hv66 := Option.some.inj (hv66.symm.trans HX611_0.out); subst hv66; clear hcc66 hcl66; replace ge66_0 := (show Kd.R k108 108 _ _ _ _ (rd_L9 y610 x8_1) from ge66_0)
                               obtain ⟨cf66, hcl66, hN66, hcc66, hfr66⟩ := Kd.R_elem ge66_0 z108 (x53_2 : Int) (od_ (by first | (with_reducible assumption) | assumption)) (by have h_ : (x53_2 : Int) < (((rd_L9 y610 x8_1).length : Int) : Int) := od_ (by first | (with_reducible assumption) | assumption); first | exact h_ | (have e_ := (Kd.R_reads' HR611_0.out).1; omega) | simpa using h_); obtain rfl := k108_openM hN66; have HP66 := Kd.R_seg ge66_0 (x53_2 : Int) (od_ (by first | (with_reducible assumption) | assumption)) (by have h_ : (x53_2 : Int) < (((rd_L9 y610 x8_1).length : Int) : Int) := od_ (by first | (with_reducible assumption) | assumption); first | exact h_ | (have e_ := (Kd.R_reads' HR611_0.out).1; omega) | simpa using h_) (seg := [.int .i64 (wrap64 (((rd_T108 (rd_L9 y610 x8_1) x53_2).f0) + ((rd_T108 (rd_L9 x7_3 (ji37)) (ji40)).f0)))]) (j := 0) hcl66 hcc66 (show 1 ≤ 2 from by decide) (x' := (⟨wrap64 (((rd_T108 (rd_L9 y610 x8_1) x53_2).f0) + ((rd_T108 (rd_L9 x7_3 (ji37)) (ji40)).f0)), (rd_T108 (rd_L9 y610 x8_1) x53_2).f1⟩ : S108)) (k108_mkM _ _ _ (⟨wrap64 (((rd_T108 (rd_L9 y610 x8_1) x53_2).f0) + ((rd_T108 (rd_L9 x7_3 (ji37)) (ji40)).f0)), (rd_T108 (rd_L9 y610 x8_1) x53_2).f1⟩ : S108)) (fun _ hk => hk); clear hcl66 hcc66 hfr66; (try clear hN66); rw [← Ny613.out] at HP66; have HS66 := hbk66 HP66.2 (fun k_ e_ => by injection e_ with e_; subst e_; exact ge66_0.1 _ rfl) (x' := y613) (Kd.M_row HP66.1); rw [← Ny615.out] at HS66; have HQ66 := am_ HS66; clear HP66 HS66 hbk66 hok66; refine start_ (n := 14) (S := fun w' => w'.cell? ⟨gb603, 0, none⟩ = some (.int .i64 ((rd_T108 (rd_L9 x7_3 (ji37)) (ji40)).f0)) ∧ w'.cell? ⟨gb603, 1, none⟩ = some (.int .i64 ((rd_T108 (rd_L9 x7_3 (ji37)) (ji40)).f1)) ∧ w'.cell? ⟨go15, (x8_1).toNat, none⟩ = some (.slice (some ⟨go52, 0, none⟩) (rd_L9 y610 x8_1).length c611_0) ∧ w'.cell? ⟨go52, ((x53_2).toNat * 2), none⟩ = some (.int .i64 ((rd_T108 (rd_L9 y610 x8_1) x53_2).f0)) ∧ w'.cell? ⟨go52, ((x53_2).toNat * 2) + 1, none⟩ = some (.int .i64 ((rd_T108 (rd_L9 y610 x8_1) x53_2).f1))) (ds := [13]) (mB_ 14 0) (by kernel_rfl) rfl rfl ⟨(kC_ BK603.out 0).trans rfl, (kC_ BK603.out 1).trans rfl, hx611_0, hx612_0, hx612_1⟩ (fun hHeld => ?_); refine with_tabW impl_fillings.tab20 impl_fillings.bits20 (fun HT_ HW_ => ?_); generalize w64.drew = w65 at HO_7 BK603 BK606 HB GG52 HL611_0 HQ62 HQ66 HR611_0 HX611_0 hf52_0 hf52_1 hx52_0 hx52_1 hx611_0 hx612_0 hx612_1 hHeld ⊢; refine pure_ (i := 0) (N := some 118) (v := ?_) (a' := ?_) (mB_ 14 1) rfl rfl (any_of HT_.out (by kernel_rfl)) (fun _ _ _ h => h) (Or.inl ⟨by rfl, ?_⟩) ?_ ?_; rotate_left
                               ·
                                intro w'
                                go_simp
                                with_reducible rfl
                               rotate_left
                               ·
                                simp only [Act.put, z1_, z2_, z3_, i64_w, i32_w]
                                rfl
                               refine pure_ (i := 1) (N := some 119) (v := ?_) (a' := ?_) (mB_ 14 3) rfl rfl (any_of HT_.out (by kernel_rfl)) (fun _ _ _ h => h) (Or.inl ⟨by rfl, ?_⟩) ?_ ?_; rotate_left
                               ·
                                intro w'
                                go_simp
                                with_reducible rfl
                               rotate_left
                               ·
                                simp only [Act.put, z1_, z2_, z3_, i64_w, i32_w]
                                rfl
                               refine pure_ (i := 2) (N := some 120) (v := ?_) (a' := ?_) (mB_ 14 7) rfl rfl (any_of HT_.out (by kernel_rfl)) (fun _ _ _ h => h) (Or.inl ⟨by rfl, ?_⟩) ?_ ?_; rotate_left
                               ·
                                intro w'
                                go_simp
                                with_reducible rfl
                               rotate_left
                               ·
                                simp only [Act.put, z1_, z2_, z3_, i64_w, i32_w]
                                rfl
                               refine pure_ (i := 4) (N := some 122) (v := ?_) (a' := ?_) (mB_ 14 23) rfl rfl (any_of HT_.out (by kernel_rfl)) (fun _ _ _ h => h) (Or.inl ⟨by rfl, ?_⟩) ?_ ?_; rotate_left
                               ·
                                intro w'
                                go_simp
                                with_reducible rfl
                               rotate_left
                               ·
                                simp only [Act.put, z1_, z2_, z3_, i64_w, i32_w]
                                rfl
                               refine pure_ (i := 8) (N := some 126) (v := ?_) (a' := ?_) (mB_ 14 279) rfl rfl (any_of HT_.out (by kernel_rfl)) (fun _ _ _ h => h) (Or.inl ⟨by rfl, ?_⟩) ?_ ?_; rotate_left
                               ·
                                intro w'
                                go_simp
                                with_reducible rfl
                               rotate_left
                               ·
                                simp only [Act.put, z1_, z2_, z3_, i64_w, i32_w]
                                rfl
                               refine take_ (i := 3) (N := some 121) (v := ?_) (a' := ?_) (mB_ 14 287) rfl rfl (take_ofW HT_.out HW_.out (by kernel_rfl)) (fun _ _ _ h => h) (Or.inl ⟨by rfl, ?_⟩) hHeld ?_ ?_; rotate_left
                               ·
                                rintro w' ⟨s0, s1, s2, s3, s4⟩
                                go_simp
                                with_reducible rfl
                               rotate_left
                               ·
                                simp only [Act.put, z1_, z2_, z3_, i64_w, i32_w]
                                rfl
                               refine pure_ (i := 5) (N := some 123) (v := ?_) (a' := ?_) (mB_ 14 319) rfl rfl (any_of HT_.out (by kernel_rfl)) (fun _ _ _ h => h) (Or.inl ⟨by rfl, ?_⟩) ?_ ?_; rotate_left
                               ·
                                intro w'
                                go_simp
                                with_reducible rfl
                               rotate_left
                               ·
                                simp only [Act.put, z1_, z2_, z3_, i64_w, i32_w]
                                rfl
                               refine pure_ (i := 6) (N := some 124) (v := ?_) (a' := ?_) (mB_ 14 383) rfl rfl (any_of HT_.out (by kernel_rfl)) (fun _ _ _ h => h) (Or.inl ⟨by rfl, ?_⟩) ?_ ?_; rotate_left
                               ·
                                intro w'
                                go_simp
                                with_reducible rfl
                               rotate_left
                               ·
                                simp only [Act.put, z1_, z2_, z3_, i64_w, i32_w]
                                rfl
                               refine take_ (i := 7) (N := some 125) (v := ?_) (a' := ?_) (mB_ 14 511) rfl rfl (take_ofW HT_.out HW_.out (by kernel_rfl)) (fun _ _ _ h => h) (Or.inl ⟨by rfl, ?_⟩) hHeld ?_ ?_; rotate_left
                               ·
                                rintro w' ⟨s0, s1, s2, s3, s4⟩
                                go_simp
                                with_reducible rfl
                               rotate_left
                               ·
                                simp only [Act.put, z1_, z2_, z3_, i64_w, i32_w]
                                rfl
                               refine take_ (i := 9) (N := some 127) (v := ?_) (a' := ?_) (mB_ 14 1023) rfl rfl (take_ofW HT_.out HW_.out (by kernel_rfl)) (fun _ _ _ h => h) (Or.inl ⟨by rfl, ?_⟩) hHeld ?_ ?_; rotate_left
                               ·
                                rintro w' ⟨s0, s1, s2, s3, s4⟩
                                go_simp
                                with_reducible rfl
                               rotate_left
                               ·
                                simp only [Act.put, z1_, z2_, z3_, i64_w, i32_w]
                                rfl
                               refine pure_ (i := 10) (N := some 128) (v := ?_) (a' := ?_) (mB_ 14 2047) rfl rfl (any_of HT_.out (by kernel_rfl)) (fun _ _ _ h => h) (Or.inl ⟨by rfl, ?_⟩) ?_ ?_; rotate_left
                               ·
                                intro w'
                                go_simp
                                with_reducible rfl
                               rotate_left
                               ·
                                simp only [Act.put, z1_, z2_, z3_, i64_w, i32_w]
                                rfl
                               refine pure_ (i := 11) (N := some 129) (v := ?_) (a' := ?_) (mB_ 14 4095) rfl rfl (any_of HT_.out (by kernel_rfl)) (fun _ _ _ h => h) (Or.inl ⟨by rfl, ?_⟩) ?_ ?_; rotate_left
                               ·
                                intro w'
                                go_simp
                                with_reducible rfl
                               rotate_left
                               ·
                                simp only [Act.put, z1_, z2_, z3_, i64_w, i32_w]
                                rfl
                               refine pure_ (i := 12) (N := some 130) (v := ?_) (a' := ?_) (mB_ 14 8191) rfl rfl (any_of HT_.out (by kernel_rfl)) (fun _ _ _ h => h) (Or.inl ⟨by rfl, ?_⟩) ?_ ?_; rotate_left
                               ·
                                intro w'
                                go_simp
                                with_reducible rfl
                               rotate_left
                               ·
                                simp only [Act.put, z1_, z2_, z3_, i64_w, i32_w]
                                rfl
                               refine last_ (i := 13) (N := none) (mB_ 14 16383) rfl rfl (one_of HT_.out (by kernel_rfl)) (by decide) (fun K hK => ?_); refine skip_ (w1 := ?_) (by rfl) rfl ?_ ?_; rotate_left
                               ·
                                go_simp
                                rfl
                               refine hK.out _ _ ?_; clear hK K; refine done_ (done_of HT_.out (by kernel_rfl)) ?_
                               try go_wp2
                               (try simp only [← hl7_3])
                               go_roundg k3
                               case measure => have := HK1.out; have := HK2.out; have := HK3.out; omega
                               case rel => exact ⟨(y615), (wrap64 (x11_3 + 1)), (by first | rfl | (simp; done) | (simp [*]; done)), H', ⟨by have := HK1.out; have := HK2.out; have := HK3.out; omega⟩, ⟨by (try simp only [hl7_2]); (try simp only [hl7_3]); (with_reducible repeat (first | apply Kd.S_alloc | apply Kd.S_drewN | apply Kd.S_drew)); exact Kd.S_mono HQ66.out (fun _ hk => trivial)⟩, ⟨by repeat (first | (with_reducible first | exact HB.out | apply bA_ | apply bN_ | apply bD_ | refine bS_ ?_ GB52.out | refine bS_ ?_ GE603.out | refine bS_ ?_ GE606.out) | exact HB.out)⟩⟩
                              ·
                               rw [if_neg c51] at H; exact absurd H (by simp)
                             ·
                              rw [if_neg c49] at H; have c49b0 : (((rd_T108 (rd_L9 x7_3 x8_1) x53_2).f0) == 0) = false := beq_eq_false_iff_ne.mpr c49; have c49b1 : (((rd_T108 (rd_L9 x7_3 x8_1) x53_2).f0) != 0) = true := bne_iff_ne.mpr c49
                              by_cases c68 : (wrap64 (((rd_T108 (rd_L9 x7_3 (ji37)) (ji40)).f1) + x11_3)) < ((rd_T108 (rd_L9 x7_3 x8_1) x53_2).f1)
                              ·
                               rw [if_pos c68] at H; have c68b0 : decide ((wrap64 (((rd_T108 (rd_L9 x7_3 (ji37)) (ji40)).f1) + x11_3)) < ((rd_T108 (rd_L9 x7_3 x8_1) x53_2).f1)) = true := decide_eq_true c68; clear c68; obtain ⟨y617, hy617⟩ : ∃ y_ : List (S108), y_ = ((rd_L9 x7_3 x8_1).set (x53_2 : Int).toNat (⟨(rd_T108 (rd_L9 x7_3 x8_1) x53_2).f0, wrap64 (((rd_T108 (rd_L9 x7_3 (ji37)) (ji40)).f1) + x11_3)⟩ : S108)) := ⟨_, rfl⟩
                               replace H : ((some (x7_3.set (x8_1 : Int).toNat y617 : List (List (S108)))).bind fun y619 => (if x53_2 < ((rd_L9 y619 x8_1).length : Int) then (impl_fillings.l2 k3 l0 a1 a2 (y619.set (x8_1 : Int).toNat ((rd_L9 y619 x8_1).set (x53_2 : Int).toNat (⟨wrap64 (((rd_T108 (rd_L9 y619 x8_1) x53_2).f0) + ((rd_T108 (rd_L9 x7_3 (ji37)) (ji40)).f0)), (rd_T108 (rd_L9 y619 x8_1) x53_2).f1⟩ : S108))) x8_1 (wrap64 ((wrap64 ((rd_T68 l0 x8_1).f0)) + a2)) x53_2 (wrap64 (x11_3 + 1)) ((rd_L9 y593 x8_1).length : Int) x53_2) else (none))) = some r := by first | (rw [hy617]; with_reducible exact H) | (have H2_ := (Option.bind_some _ _).symm.trans H; rw [hy617]; with_reducible exact H2_) | (have H2_ := (Option.bind_some _ _).symm.trans H; with_reducible exact H2_) | with_reducible exact H | (rw [hy617]; exact H) | exact H
                               have Ny617 := am_ hy617; clear hy617; obtain ⟨y619, hy619⟩ : ∃ y_ : List (List (S108)), y_ = (x7_3.set (x8_1 : Int).toNat y617) := ⟨_, rfl⟩
                               replace H : (if x53_2 < ((rd_L9 y619 x8_1).length : Int) then (impl_fillings.l2 k3 l0 a1 a2 (y619.set (x8_1 : Int).toNat ((rd_L9 y619 x8_1).set (x53_2 : Int).toNat (⟨wrap64 (((rd_T108 (rd_L9 y619 x8_1) x53_2).f0) + ((rd_T108 (rd_L9 x7_3 (ji37)) (ji40)).f0)), (rd_T108 (rd_L9 y619 x8_1) x53_2).f1⟩ : S108))) x8_1 (wrap64 ((wrap64 ((rd_T68 l0 x8_1).f0)) + a2)) x53_2 (wrap64 (x11_3 + 1)) ((rd_L9 y593 x8_1).length : Int) x53_2) else (none)) = some r := by first | (rw [hy619]; with_reducible exact H) | (have H2_ := (Option.bind_some _ _).symm.trans H; rw [hy619]; with_reducible exact H2_) | (have H2_ := (Option.bind_some _ _).symm.trans H; with_reducible exact H2_) | with_reducible exact H | (rw [hy619]; exact H) | exact H
                               have Ny619 := am_ hy619; clear hy619
                               by_cases c70 : x53_2 < ((rd_L9 y619 x8_1).length : Int)
                               ·
                                rw [if_pos c70] at H; have c70b0 : decide (x53_2 < ((rd_L9 y619 x8_1).length : Int)) = true := decide_eq_true c70; clear c70; obtain ⟨y622, hy622⟩ : ∃ y_ : List (S108), y_ = ((rd_L9 y619 x8_1).set (x53_2 : Int).toNat (⟨wrap64 (((rd_T108 (rd_L9 y619 x8_1) x53_2).f0) + ((rd_T108 (rd_L9 x7_3 (ji37)) (ji40)).f0)), (rd_T108 (rd_L9 y619 x8_1) x53_2).f1⟩ : S108)) := ⟨_, rfl⟩
                                replace H : (impl_fillings.l2 k3 l0 a1 a2 (y619.set (x8_1 : Int).toNat y622) x8_1 (wrap64 ((wrap64 ((rd_T68 l0 x8_1).f0)) + a2)) x53_2 (wrap64 (x11_3 + 1)) ((rd_L9 y593 x8_1).length : Int) x53_2) = some r := by first | (rw [hy622]; with_reducible exact H) | (have H2_ := (Option.bind_some _ _).symm.trans H; rw [hy622]; with_reducible exact H2_) | (have H2_ := (Option.bind_some _ _).symm.trans H; with_reducible exact H2_) | with_reducible exact H | (rw [hy622]; exact H) | exact H
                                have Ny622 := am_ hy622; clear hy622; obtain ⟨y624, hy624⟩ : ∃ y_ : List (List (S108)), y_ = (y619.set (x8_1 : Int).toNat y622) := ⟨_, rfl⟩
                                replace H : (impl_fillings.l2 k3 l0 a1 a2 y624 x8_1 (wrap64 ((wrap64 ((rd_T68 l0 x8_1).f0)) + a2)) x53_2 (wrap64 (x11_3 + 1)) ((rd_L9 y593 x8_1).length : Int) x53_2) = some r := by first | (rw [hy624]; with_reducible exact H) | (have H2_ := (Option.bind_some _ _).symm.trans H; rw [hy624]; with_reducible exact H2_) | (have H2_ := (Option.bind_some _ _).symm.trans H; with_reducible exact H2_) | with_reducible exact H | (rw [hy624]; exact H) | exact H
                                have Ny624 := am_ hy624; clear hy624; have H' := am_ H; clear H; have p600 : 0 ≤ (x8_1 : Int) := od_ (by first | (with_reducible assumption) | assumption); have q600 : x8_1 < (l0.length : Int) := od_ (by first | (with_reducible assumption) | assumption); obtain ⟨ad600, e600, hx600_0, hx600_1⟩ := at_T68 HR0.out x8_1 p600 q600; obtain rfl : ad598 = ad600 := (by injection e600)
                                replace hx600_0 := (HB.out.cell (bl_ w _ hx600_0)).trans hx600_0; replace hx600_1 := (HB.out.cell (bl_ w _ hx600_1)).trans hx600_1; replace p600 := eq_true p600; replace q600 := eq_true q600; have p601 : 0 ≤ ((ji37) : Int) := od_ (by first | (with_reducible assumption) | assumption); have q601 : (ji37) < (x7_3.length : Int) := od_ (by first | (with_reducible assumption) | assumption); obtain ⟨ad601, A601_0, c601_0, e601, hx601_0, hl601_0, hi601_0⟩ := at_L9 (Kd.S_reads' HO_7.out).2.2 (ji37) p601 q601; obtain rfl : (⟨go15, 0, none⟩ : Addr) = ad601 := (by injection e601)
                                obtain ⟨ce601, hce601, hMe601, hcc601⟩ := Kd.S_get HO_7.out [] (ji37) p601 (by first | exact q601 | exact od_ (by first | (with_reducible assumption) | assumption) | (have e_ := (Kd.S_reads' HO_7.out).1; omega)); obtain ⟨ve601_0, rfl, ge601_0⟩ := hMe601; have hv601_0 := hcc601 0 _ rfl; rw [Nat.add_zero, show ((Kd.slice 108 k108)).sz = 1 from rfl, Nat.mul_one] at hv601_0; replace hv601_0 := Option.some.inj (hv601_0.symm.trans hx601_0); rw [hv601_0] at ge601_0; have HL601_0 := am_ (show Kd.R k108 108 _ _ _ _ (rd_L9 x7_3 (ji37)) from ge601_0); clear hv601_0 ge601_0; have HX601_0 := am_ hx601_0; clear hcc601 hce601
                                (first | simp only [add_plain] at hx601_0 | simp only [add_at] at hx601_0 | simp only [Addr.add, Nat.zero_add] at hx601_0 | skip)
                                have HR601_0 := am_ hi601_0; have HC601_0 := am_ hl601_0; clear hi601_0 hl601_0; replace p601 := eq_true p601; replace q601 := eq_true q601; have p602 : 0 ≤ ((ji40) : Int) := od_ (by first | (with_reducible assumption) | assumption); have q602 : (ji40) < ((rd_L9 x7_3 (ji37)).length : Int) := od_ (by first | (with_reducible assumption) | assumption); obtain ⟨ad602, e602, hx602_0, hx602_1⟩ := at_T108 (by repeat (first | (with_reducible exact HR601_0.out) | (with_reducible refine Kd.C_alloc ?_ _) | (with_reducible refine Kd.C_drewN ?_ _) | (with_reducible refine Kd.C_drew ?_) | exact HR601_0.out)) (ji40) p602 q602
                                cases e602
                                replace p602 := eq_true p602; replace q602 := eq_true q602
                                try go_wp2_with (first | ((with_reducible refine gate_dst (N := 12) rfl ?_); refine box_event ?hg (N := 12) ?hd (cs := #[.int .i64 0, .int .i64 0]) (t := 108) ?hr ?_; (case hd => rfl); (case hg => rfl); (case hr => first | (go_simp; done) | (go_simp; rfl)); intro gb603 hg w72 hbox hb; have n0_ := am_ (Kd.S_below (Kd.S_elderB (by (with_reducible repeat (first | apply Kd.S_alloc | apply Kd.S_drewN | apply Kd.S_drew)); exact HO_7.out) gb603 (Nat.le_of_eq hg.symm)) hb); have n1_ := am_ (Kd.R_below (Kd.R_elderB (by (with_reducible repeat (first | apply Kd.R_alloc | apply Kd.R_drewN | apply Kd.R_drew)); exact HL601_0.out) gb603 (Nat.le_of_eq hg.symm)) hb); have n2_ := am_ (Kd.C_below (by repeat (first | (with_reducible exact HR601_0.out) | (with_reducible refine Kd.C_alloc ?_ _) | (with_reducible refine Kd.C_drewN ?_ _) | (with_reducible refine Kd.C_drew ?_) | exact HR601_0.out)) hb); have n3_ := am_ (pw_cell_below hb HX601_0.out); have n4_ := am_ (bT_ (by repeat (first | (with_reducible first | exact HB.out | apply bA_ | apply bN_ | apply bD_) | exact HB.out)) hb); have n5_ := am_ (hbox); have n6_ := am_ ((by rw [hg]; exact (below_size (by repeat (first | (with_reducible first | exact HB.out | apply bA_ | apply bN_ | apply bD_) | exact HB.out))) : w.heap.size ≤ gb603)); have n7_ := n6_; clear HO_7; clear HL601_0; clear HR601_0; clear HX601_0; clear HB; have HO_7 := n0_; have HL601_0 := n1_; have HR601_0 := n2_; have HX601_0 := n3_; have HB := n4_; have BK603 := n5_; have GW603 := n6_; have GE603 := n7_; clear n0_ n1_ n2_ n3_ n4_ n5_ n6_ n7_; clear hb hbox hg; have hcz73_0 : w72.cell? ⟨gb603, 0, none⟩ = some (.int .i64 0) := (kC_ BK603.out 0).trans rfl; have hcz73_1 : w72.cell? ⟨gb603, 1, none⟩ = some (.int .i64 0) := (kC_ BK603.out 1).trans rfl; have hfz73_0 := kF_ BK603.out 0; have hfz73_1 := kF_ BK603.out 1) | ((with_reducible refine gate_store (t := 108) (p := 12) rfl ?_); refine store_event (t := 108) (p := 12) (v := ?vo_w74) (w1 := ((w72.setCell ⟨gb603, 0, none⟩ (.int .i64 ((rd_T108 (rd_L9 x7_3 (ji37)) (ji40)).f0))).setCell ⟨gb603, 1, none⟩ (.int .i64 ((rd_T108 (rd_L9 x7_3 (ji37)) (ji40)).f1)))) ?hg ?ho ?hn ?hr ?_; (case ho => rfl); (case hg => rfl); (case hn => rfl); (case hr => first | (go_simp; done) | (go_simp; rfl)); intro w74 hw; have n0_ : Aside0 (Kd.S (Kd.slice 108 k108) 109 w74 w.heap.size (fun k_ => k_ ≠ gb603) (.slice (some ⟨go15, 0, none⟩) x7_3.length co15) x7_3) := ⟨(by rw [hw]; exact (by (with_reducible repeat (first | apply Kd.S_alloc | apply Kd.S_drewN | apply Kd.S_drew)); exact Kd.S_mono (Kd.S_far (p := ⟨gb603, 1, none⟩) (Kd.S_far (p := ⟨gb603, 0, none⟩) (Kd.S_mono HO_7.out (fun k_ hk => (⟨hk, hk.2⟩ : _ ∧ k_ ≠ gb603))) (fun _ hk => hk.2) (.int .i64 ((rd_T108 (rd_L9 x7_3 (ji37)) (ji40)).f0))) (fun _ hk => hk.2) (.int .i64 ((rd_T108 (rd_L9 x7_3 (ji37)) (ji40)).f1))) (fun _ hk => hk.1.2)))⟩; have n1_ : Aside0 (Kd.R k108 108 w74 w.heap.size (fun k_ => some k_ ≠ (.slice (some ⟨go15, 0, none⟩) x7_3.length co15 : Value).ownBlock ∧ k_ ≠ gb603) (.slice (some ad602) (rd_L9 x7_3 (ji37)).length c601_0) (rd_L9 x7_3 (ji37))) := ⟨(by rw [hw]; exact (by (with_reducible repeat (first | apply Kd.R_alloc | apply Kd.R_drewN | apply Kd.R_drew)); exact Kd.R_mono (Kd.R_far (p := ⟨gb603, 1, none⟩) (Kd.R_far (p := ⟨gb603, 0, none⟩) (Kd.R_mono HL601_0.out (fun k_ hk => (⟨hk, hk.2⟩ : _ ∧ k_ ≠ gb603))) (fun _ hk => hk.2) (.int .i64 ((rd_T108 (rd_L9 x7_3 (ji37)) (ji40)).f0))) (fun _ hk => hk.2) (.int .i64 ((rd_T108 (rd_L9 x7_3 (ji37)) (ji40)).f1))) (fun _ hk => ⟨hk.1.1.2, hk.1.2⟩)))⟩; have n2_ : Aside0 (w74.heap[gb603]? = some (.cells #[.int .i64 ((rd_T108 (rd_L9 x7_3 (ji37)) (ji40)).f0), .int .i64 ((rd_T108 (rd_L9 x7_3 (ji37)) (ji40)).f1)] 108 (0, 0))) := ⟨(by rw [hw]; exact (by (with_reducible repeat (first | apply kN_ | apply kD_ | apply kA_)); refine blk_put (cs := #[.int .i64 ((rd_T108 (rd_L9 x7_3 (ji37)) (ji40)).f0), .int .i64 0]) ?_ 1 _ rfl; (with_reducible repeat (first | apply kN_ | apply kD_ | apply kA_)); refine blk_put (cs := #[.int .i64 0, .int .i64 0]) ?_ 0 _ rfl; (with_reducible repeat (first | apply kN_ | apply kD_ | apply kA_)); exact BK603.out))⟩; have n3_ : Aside0 (Below w.heap.size w w74) := ⟨(by rw [hw]; exact (by repeat (first | (with_reducible first | exact HB.out | apply bA_ | apply bN_ | apply bD_ | refine bS_ ?_ GE603.out) | exact HB.out)))⟩; clear hw; clear HO_7; clear HL601_0; clear BK603; clear HB; have HO_7 := n0_; have HL601_0 := n1_; have BK603 := n2_; have HB := n3_; clear n0_ n1_ n2_ n3_; have hcz75_0 : w74.cell? ⟨gb603, 0, none⟩ = some (.int .i64 ((rd_T108 (rd_L9 x7_3 (ji37)) (ji40)).f0)) := (kC_ BK603.out 0).trans rfl; have hcz75_1 : w74.cell? ⟨gb603, 1, none⟩ = some (.int .i64 ((rd_T108 (rd_L9 x7_3 (ji37)) (ji40)).f1)) := (kC_ BK603.out 1).trans rfl; have hfz75_0 := kF_ BK603.out 0; have hfz75_1 := kF_ BK603.out 1; have p604 : 0 ≤ (x8_1 : Int) := od_ (by first | (with_reducible assumption) | assumption); have q604 : x8_1 < (x7_3.length : Int) := od_ (by first | (with_reducible assumption) | assumption); obtain ⟨ad604, A604_0, c604_0, e604, hx604_0, hl604_0, hi604_0⟩ := at_L9 (Kd.S_reads' HO_7.out).2.2 x8_1 p604 q604; obtain rfl : (⟨go15, 0, none⟩ : Addr) = ad604 := (by injection e604); obtain ⟨ce604, hce604, hMe604, hcc604⟩ := Kd.S_get HO_7.out [] x8_1 p604 (by first | exact q604 | exact od_ (by first | (with_reducible assumption) | assumption) | (have e_ := (Kd.S_reads' HO_7.out).1; omega)); obtain ⟨ve604_0, rfl, ge604_0⟩ := hMe604; have hv604_0 := hcc604 0 _ rfl; rw [Nat.add_zero, show ((Kd.slice 108 k108)).sz = 1 from rfl, Nat.mul_one] at hv604_0; replace hv604_0 := Option.some.inj (hv604_0.symm.trans hx604_0); rw [hv604_0] at ge604_0; have HL604_0 := am_ (show Kd.R k108 108 _ _ _ _ (rd_L9 x7_3 x8_1) from ge604_0); clear hv604_0 ge604_0; have HX604_0 := am_ hx604_0; clear hcc604 hce604; (first | simp only [add_plain] at hx604_0 | simp only [add_at] at hx604_0 | simp only [Addr.add, Nat.zero_add] at hx604_0 | skip); have HR604_0 := am_ hi604_0; have HC604_0 := am_ hl604_0; clear hi604_0 hl604_0; replace p604 := eq_true p604; replace q604 := eq_true q604; have p605 : 0 ≤ (x53_2 : Int) := od_ (by first | (with_reducible assumption) | assumption); have q605 : x53_2 < ((rd_L9 x7_3 x8_1).length : Int) := od_ (by first | (with_reducible assumption) | assumption); obtain ⟨ad605, e605, hx605_0, hx605_1⟩ := at_T108 (by repeat (first | (with_reducible exact HR604_0.out) | (with_reducible refine Kd.C_alloc ?_ _) | (with_reducible refine Kd.C_drewN ?_ _) | (with_reducible refine Kd.C_drew ?_) | exact HR604_0.out)) x53_2 p605 q605; cases e605; replace p605 := eq_true p605; replace q605 := eq_true q605) | ((with_reducible refine gate_dst (N := 13) rfl ?_); refine box_event ?hg (N := 13) ?hd (cs := #[.int .i64 0, .int .i64 0]) (t := 108) ?hr ?_; (case hd => rfl); (case hg => rfl); (case hr => first | (go_simp; done) | (go_simp; rfl)); intro gb606 hg w76 hbox hb; have n0_ := am_ (Kd.S_below (Kd.S_elderB (by (with_reducible repeat (first | apply Kd.S_alloc | apply Kd.S_drewN | apply Kd.S_drew)); exact HO_7.out) gb606 (Nat.le_of_eq hg.symm)) hb); have n1_ := am_ (Kd.R_below (Kd.R_elderB (by (with_reducible repeat (first | apply Kd.R_alloc | apply Kd.R_drewN | apply Kd.R_drew)); exact HL601_0.out) gb606 (Nat.le_of_eq hg.symm)) hb); have n2_ := am_ (Kd.R_below (Kd.R_elderB (by (with_reducible repeat (first | apply Kd.R_alloc | apply Kd.R_drewN | apply Kd.R_drew)); exact HL604_0.out) gb606 (Nat.le_of_eq hg.symm)) hb); have n3_ := am_ (blk_below (g := gb603) (o := .cells #[.int .i64 ((rd_T108 (rd_L9 x7_3 (ji37)) (ji40)).f0), .int .i64 ((rd_T108 (rd_L9 x7_3 (ji37)) (ji40)).f1)] 108 (0, 0)) (by (with_reducible repeat (first | apply kN_ | apply kD_ | apply kA_)); exact BK603.out) hb); have n4_ := am_ (Kd.C_below (by repeat (first | (with_reducible exact HR604_0.out) | (with_reducible refine Kd.C_alloc ?_ _) | (with_reducible refine Kd.C_drewN ?_ _) | (with_reducible refine Kd.C_drew ?_) | exact HR604_0.out)) hb); have n5_ := am_ (pw_cell_below hb HX604_0.out); have n6_ := am_ (bT_ (by repeat (first | (with_reducible first | exact HB.out | apply bA_ | apply bN_ | apply bD_ | refine bS_ ?_ GE603.out) | exact HB.out)) hb); have n7_ := am_ (hbox); have n8_ := am_ ((by rw [hg]; exact (below_size (by repeat (first | (with_reducible first | exact HB.out | apply bA_ | apply bN_ | apply bD_ | refine bS_ ?_ GE603.out) | exact HB.out))) : w.heap.size ≤ gb606)); have n9_ := n8_; have n10_ := am_ ((by rw [hg]; exact Nat.ne_of_lt (blk_lt (g := gb603) (o := .cells #[.int .i64 ((rd_T108 (rd_L9 x7_3 (ji37)) (ji40)).f0), .int .i64 ((rd_T108 (rd_L9 x7_3 (ji37)) (ji40)).f1)] 108 (0, 0)) (by (with_reducible repeat (first | apply kN_ | apply kD_ | apply kA_)); exact BK603.out)) : gb603 ≠ gb606)); have n11_ := am_ ((by rw [hg]; exact Nat.ne_of_gt (blk_lt (g := gb603) (o := .cells #[.int .i64 ((rd_T108 (rd_L9 x7_3 (ji37)) (ji40)).f0), .int .i64 ((rd_T108 (rd_L9 x7_3 (ji37)) (ji40)).f1)] 108 (0, 0)) (by (with_reducible repeat (first | apply kN_ | apply kD_ | apply kA_)); exact BK603.out)) : gb606 ≠ gb603)); clear HO_7; clear HL601_0; clear HL604_0; clear BK603; clear HR604_0; clear HX604_0; clear HB; have HO_7 := n0_; have HL601_0 := n1_; have HL604_0 := n2_; have BK603 := n3_; have HR604_0 := n4_; have HX604_0 := n5_; have HB := n6_; have BK606 := n7_; have GW606 := n8_; have GE606 := n9_; have NB603_606 := n10_; have NB606_603 := n11_; clear n0_ n1_ n2_ n3_ n4_ n5_ n6_ n7_ n8_ n9_ n10_ n11_; clear hb hbox hg; have hnb77 := NB606_603.out; have hnc77 := NB603_606.out; have hcz78_0 : w76.cell? ⟨gb606, 0, none⟩ = some (.int .i64 0) := (kC_ BK606.out 0).trans rfl; have hcz78_1 : w76.cell? ⟨gb606, 1, none⟩ = some (.int .i64 0) := (kC_ BK606.out 1).trans rfl; have hfz78_0 := kF_ BK606.out 0; have hfz78_1 := kF_ BK606.out 1; have hcz79_0 : w76.cell? ⟨gb603, 0, none⟩ = some (.int .i64 ((rd_T108 (rd_L9 x7_3 (ji37)) (ji40)).f0)) := (kC_ BK603.out 0).trans rfl; have hcz79_1 : w76.cell? ⟨gb603, 1, none⟩ = some (.int .i64 ((rd_T108 (rd_L9 x7_3 (ji37)) (ji40)).f1)) := (kC_ BK603.out 1).trans rfl; have hfz79_0 := kF_ BK603.out 0; have hfz79_1 := kF_ BK603.out 1))
                                have n0_ : Aside0 (Kd.S (Kd.slice 108 k108) 109 ((w76.setCell ⟨gb606, 0, none⟩ (.int .i64 ((rd_T108 (rd_L9 x7_3 x8_1) x53_2).f0))).setCell ⟨gb606, 1, none⟩ (.int .i64 ((rd_T108 (rd_L9 x7_3 x8_1) x53_2).f1))) w.heap.size (fun k_ => k_ ≠ gb603 ∧ k_ ≠ gb606) (.slice (some ⟨go15, 0, none⟩) x7_3.length co15) x7_3) := ⟨by (with_reducible repeat (first | apply Kd.S_alloc | apply Kd.S_drewN | apply Kd.S_drew)); exact Kd.S_mono (Kd.S_far (p := ⟨gb606, 1, none⟩) (Kd.S_far (p := ⟨gb606, 0, none⟩) (Kd.S_mono HO_7.out (fun k_ hk => (⟨hk, hk.2⟩ : _ ∧ k_ ≠ gb606))) (fun _ hk => hk.2) (.int .i64 ((rd_T108 (rd_L9 x7_3 x8_1) x53_2).f0))) (fun _ hk => hk.2) (.int .i64 ((rd_T108 (rd_L9 x7_3 x8_1) x53_2).f1))) (fun _ hk => ⟨hk.1.1, hk.1.2⟩)⟩
                                have n1_ : Aside0 (Kd.R k108 108 ((w76.setCell ⟨gb606, 0, none⟩ (.int .i64 ((rd_T108 (rd_L9 x7_3 x8_1) x53_2).f0))).setCell ⟨gb606, 1, none⟩ (.int .i64 ((rd_T108 (rd_L9 x7_3 x8_1) x53_2).f1))) w.heap.size (fun k_ => some k_ ≠ (.slice (some ⟨go15, 0, none⟩) x7_3.length co15 : Value).ownBlock ∧ k_ ≠ gb603 ∧ k_ ≠ gb606) (.slice (some ad602) (rd_L9 x7_3 (ji37)).length c601_0) (rd_L9 x7_3 (ji37))) := ⟨by (with_reducible repeat (first | apply Kd.R_alloc | apply Kd.R_drewN | apply Kd.R_drew)); exact Kd.R_mono (Kd.R_far (p := ⟨gb606, 1, none⟩) (Kd.R_far (p := ⟨gb606, 0, none⟩) (Kd.R_mono HL601_0.out (fun k_ hk => (⟨hk, hk.2⟩ : _ ∧ k_ ≠ gb606))) (fun _ hk => hk.2) (.int .i64 ((rd_T108 (rd_L9 x7_3 x8_1) x53_2).f0))) (fun _ hk => hk.2) (.int .i64 ((rd_T108 (rd_L9 x7_3 x8_1) x53_2).f1))) (fun _ hk => ⟨hk.1.1.1, ⟨hk.1.1.2, hk.1.2⟩⟩)⟩
                                have n2_ : Aside0 (Kd.R k108 108 ((w76.setCell ⟨gb606, 0, none⟩ (.int .i64 ((rd_T108 (rd_L9 x7_3 x8_1) x53_2).f0))).setCell ⟨gb606, 1, none⟩ (.int .i64 ((rd_T108 (rd_L9 x7_3 x8_1) x53_2).f1))) w.heap.size (fun k_ => some k_ ≠ (.slice (some ⟨go15, 0, none⟩) x7_3.length co15 : Value).ownBlock ∧ k_ ≠ gb603 ∧ k_ ≠ gb606) (.slice (some ad605) (rd_L9 x7_3 x8_1).length c604_0) (rd_L9 x7_3 x8_1)) := ⟨by (with_reducible repeat (first | apply Kd.R_alloc | apply Kd.R_drewN | apply Kd.R_drew)); exact Kd.R_mono (Kd.R_far (p := ⟨gb606, 1, none⟩) (Kd.R_far (p := ⟨gb606, 0, none⟩) (Kd.R_mono HL604_0.out (fun k_ hk => (⟨hk, hk.2⟩ : _ ∧ k_ ≠ gb606))) (fun _ hk => hk.2) (.int .i64 ((rd_T108 (rd_L9 x7_3 x8_1) x53_2).f0))) (fun _ hk => hk.2) (.int .i64 ((rd_T108 (rd_L9 x7_3 x8_1) x53_2).f1))) (fun _ hk => ⟨hk.1.1.2, ⟨hk.1.1.1, hk.1.2⟩⟩)⟩
                                have n3_ : Aside0 (((w76.setCell ⟨gb606, 0, none⟩ (.int .i64 ((rd_T108 (rd_L9 x7_3 x8_1) x53_2).f0))).setCell ⟨gb606, 1, none⟩ (.int .i64 ((rd_T108 (rd_L9 x7_3 x8_1) x53_2).f1))).heap[gb603]? = some (.cells #[.int .i64 ((rd_T108 (rd_L9 x7_3 (ji37)) (ji40)).f0), .int .i64 ((rd_T108 (rd_L9 x7_3 (ji37)) (ji40)).f1)] 108 (0, 0))) := ⟨by (with_reducible repeat (first | apply kN_ | apply kD_ | apply kA_)); refine blk_far ?_ NB603_606.out _; (with_reducible repeat (first | apply kN_ | apply kD_ | apply kA_)); refine blk_far ?_ NB603_606.out _; (with_reducible repeat (first | apply kN_ | apply kD_ | apply kA_)); exact BK603.out⟩
                                have n4_ : Aside0 (((w76.setCell ⟨gb606, 0, none⟩ (.int .i64 ((rd_T108 (rd_L9 x7_3 x8_1) x53_2).f0))).setCell ⟨gb606, 1, none⟩ (.int .i64 ((rd_T108 (rd_L9 x7_3 x8_1) x53_2).f1))).heap[gb606]? = some (.cells #[.int .i64 ((rd_T108 (rd_L9 x7_3 x8_1) x53_2).f0), .int .i64 ((rd_T108 (rd_L9 x7_3 x8_1) x53_2).f1)] 108 (0, 0))) := ⟨by (with_reducible repeat (first | apply kN_ | apply kD_ | apply kA_)); refine blk_put (cs := #[.int .i64 ((rd_T108 (rd_L9 x7_3 x8_1) x53_2).f0), .int .i64 0]) ?_ 1 _ rfl; (with_reducible repeat (first | apply kN_ | apply kD_ | apply kA_)); refine blk_put (cs := #[.int .i64 0, .int .i64 0]) ?_ 0 _ rfl; (with_reducible repeat (first | apply kN_ | apply kD_ | apply kA_)); exact BK606.out⟩
                                have n5_ : Aside0 (Below w.heap.size w ((w76.setCell ⟨gb606, 0, none⟩ (.int .i64 ((rd_T108 (rd_L9 x7_3 x8_1) x53_2).f0))).setCell ⟨gb606, 1, none⟩ (.int .i64 ((rd_T108 (rd_L9 x7_3 x8_1) x53_2).f1)))) := ⟨by repeat (first | (with_reducible first | exact HB.out | apply bA_ | apply bN_ | apply bD_ | refine bS_ ?_ GE603.out | refine bS_ ?_ GE606.out) | exact HB.out)⟩
                                (try clear HO_7); (try clear HL601_0); (try clear HL604_0); (try clear BK603); (try clear BK606); (try clear HB); generalize ((w76.setCell ⟨gb606, 0, none⟩ (.int .i64 ((rd_T108 (rd_L9 x7_3 x8_1) x53_2).f0))).setCell ⟨gb606, 1, none⟩ (.int .i64 ((rd_T108 (rd_L9 x7_3 x8_1) x53_2).f1))) = w80 at n0_ n1_ n2_ n3_ n4_ n5_ ⊢; have HO_7 := n0_; have HL601_0 := n1_; have HL604_0 := n2_; have BK603 := n3_; have BK606 := n4_; have HB := n5_; clear n0_ n1_ n2_ n3_ n4_ n5_; have n0_ := am_ (Kd.S_drew HO_7.out); have n1_ := am_ (Kd.R_drew HL601_0.out); have n2_ := am_ (Kd.R_drew HL604_0.out); have n3_ := am_ (kD_ BK603.out); have n4_ := am_ (kD_ BK606.out); have n5_ := am_ (bD_ HB.out); clear HO_7; clear HL601_0; clear HL604_0; clear BK603; clear BK606; clear HB; have HO_7 := n0_; have HL601_0 := n1_; have HL604_0 := n2_; have BK603 := n3_; have BK606 := n4_; have HB := n5_; clear n0_ n1_ n2_ n3_ n4_ n5_; have p616 : 0 ≤ (x8_1 : Int) := od_ (by first | (with_reducible assumption) | assumption); have q616 : x8_1 < (x7_3.length : Int) := od_ (by first | (with_reducible assumption) | assumption); obtain ⟨ad616, A616_0, c616_0, e616, hx616_0, hl616_0, hi616_0⟩ := at_L9 (Kd.S_reads' HO_7.out).2.2 x8_1 p616 q616; obtain rfl : (⟨go15, 0, none⟩ : Addr) = ad616 := (by injection e616)
                                obtain ⟨ce616, hce616, hMe616, hcc616⟩ := Kd.S_get HO_7.out [] x8_1 p616 (by first | exact q616 | exact od_ (by first | (with_reducible assumption) | assumption) | (have e_ := (Kd.S_reads' HO_7.out).1; omega)); obtain ⟨ve616_0, rfl, ge616_0⟩ := hMe616; have hv616_0 := hcc616 0 _ rfl; rw [Nat.add_zero, show ((Kd.slice 108 k108)).sz = 1 from rfl, Nat.mul_one] at hv616_0; replace hv616_0 := Option.some.inj (hv616_0.symm.trans hx616_0); rw [hv616_0] at ge616_0; have HL616_0 := am_ (show Kd.R k108 108 _ _ _ _ (rd_L9 x7_3 x8_1) from ge616_0); clear hv616_0 ge616_0; have HX616_0 := am_ hx616_0; clear hcc616 hce616
                                (first | simp only [add_plain] at hx616_0 | simp only [add_at] at hx616_0 | simp only [Addr.add, Nat.zero_add] at hx616_0 | skip)
                                have HR616_0 := am_ hi616_0; have HC616_0 := am_ hl616_0; clear hi616_0 hl616_0; replace p616 := eq_true p616; replace q616 := eq_true q616; have p69 : 0 ≤ (x53_2 : Int) := od_ (by first | (with_reducible assumption) | assumption); have q69 : (x53_2 : Int) < (((rd_L9 x7_3 x8_1).length : Int) : Int) := od_ (by first | (with_reducible assumption) | assumption); obtain ⟨go69, co69, eo69, gb69, gl69, cl69, HG69⟩ := Kd.R_form HL616_0.out (by omega)
                                (first | cases eo69 | (injection eo69 with ea_ en_ ec_; (first | subst ea_ | (injection ea_ with ea_; subst ea_)); subst ec_; clear en_))
                                have GB69 := am_ gb69; have GG69 := am_ HG69; clear gb69 gl69 HG69; obtain ⟨ce69, hcl69, hM69, hcc69, hfr69⟩ := Kd.R_elem HL616_0.out z108 (x53_2 : Int) p69 q69; obtain rfl := k108_openM hM69; have hx69_0 : World.cell? _ ⟨go69, (x53_2 : Int).toNat * 2, none⟩ = some (.int .i64 ((rd_T108 (rd_L9 x7_3 x8_1) x53_2).f0)) := hcc69 0 _ rfl; have hx69_1 : World.cell? _ ⟨go69, (x53_2 : Int).toNat * 2 + 1, none⟩ = some (.int .i64 ((rd_T108 (rd_L9 x7_3 x8_1) x53_2).f1)) := hcc69 1 _ rfl; have hf69_0 : World.frozen? _ ⟨go69, (x53_2 : Int).toNat * 2, none⟩ = false := hfr69 0; have hf69_1 : World.frozen? _ ⟨go69, (x53_2 : Int).toNat * 2 + 1, none⟩ = false := hfr69 1; clear hcl69 hcc69 hfr69; (try clear hM69); replace p69 := eq_true p69; replace q69 := eq_true q69; have hq82 : (x8_1 : Int) < (x7_3.length : Int) := (by have h_ : (x8_1 : Int) < ((x7_3.length : Int) : Int) := od_ (by first | (with_reducible assumption) | assumption); first | exact h_ | (have e_ := (Kd.S_reads' HO_7.out).1; omega) | simpa only [List.length_set, List.length_set] using h_)
                                obtain ⟨oki82, ce82, hcl82, hM82, hcc82, hok82, hbk82⟩ := Kd.S_borrow HO_7.out [] (x8_1 : Int) (od_ (by first | (with_reducible assumption) | assumption)) (by first | exact hq82 | (have e_ := (Kd.S_reads' HO_7.out).1; omega)); obtain ⟨ve82_0, rfl, ge82_0⟩ := hM82; have hv82 := hcc82 0 _ rfl; rw [Nat.add_zero, show ((Kd.slice 108 k108)).sz = 1 from rfl, Nat.mul_one] at hv82; replace hv82 := Option.some.inj (hv82.symm.trans HX616_0.out); subst hv82; clear hcc82 hcl82; replace ge82_0 := (show Kd.R k108 108 _ _ _ _ (rd_L9 x7_3 x8_1) from ge82_0)
                                obtain ⟨cf82, hcl82, hN82, hcc82, hfr82⟩ := Kd.R_elem ge82_0 z108 (x53_2 : Int) (od_ (by first | (with_reducible assumption) | assumption)) (by have h_ : (x53_2 : Int) < (((rd_L9 x7_3 x8_1).length : Int) : Int) := od_ (by first | (with_reducible assumption) | assumption); first | exact h_ | (have e_ := (Kd.R_reads' HR616_0.out).1; omega) | simpa using h_); obtain rfl := k108_openM hN82; have HP82 := Kd.R_seg ge82_0 (x53_2 : Int) (od_ (by first | (with_reducible assumption) | assumption)) (by have h_ : (x53_2 : Int) < (((rd_L9 x7_3 x8_1).length : Int) : Int) := od_ (by first | (with_reducible assumption) | assumption); first | exact h_ | (have e_ := (Kd.R_reads' HR616_0.out).1; omega) | simpa using h_) (seg := [.int .i64 (wrap64 (((rd_T108 (rd_L9 x7_3 (ji37)) (ji40)).f1) + x11_3))]) (j := 1) hcl82 hcc82 (show 2 ≤ 2 from by decide) (x' := (⟨(rd_T108 (rd_L9 x7_3 x8_1) x53_2).f0, wrap64 (((rd_T108 (rd_L9 x7_3 (ji37)) (ji40)).f1) + x11_3)⟩ : S108)) (k108_mkM _ _ _ (⟨(rd_T108 (rd_L9 x7_3 x8_1) x53_2).f0, wrap64 (((rd_T108 (rd_L9 x7_3 (ji37)) (ji40)).f1) + x11_3)⟩ : S108)) (fun _ hk => hk); clear hcl82 hcc82 hfr82; (try clear hN82); rw [← Ny617.out] at HP82; have HS82 := hbk82 HP82.2 (fun k_ e_ => by injection e_ with e_; subst e_; exact ge82_0.1 _ rfl) (x' := y617) (Kd.M_row HP82.1); rw [← Ny619.out] at HS82; have HQ82 := am_ HS82; clear HP82 HS82 hbk82 hok82; refine start_ (n := 12) (S := fun w' => w'.cell? ⟨gb603, 0, none⟩ = some (.int .i64 ((rd_T108 (rd_L9 x7_3 (ji37)) (ji40)).f0)) ∧ w'.cell? ⟨gb603, 1, none⟩ = some (.int .i64 ((rd_T108 (rd_L9 x7_3 (ji37)) (ji40)).f1)) ∧ w'.cell? ⟨go15, (x8_1).toNat, none⟩ = some (.slice (some ⟨go69, 0, none⟩) (rd_L9 x7_3 x8_1).length c616_0)) (ds := [11]) (mB_ 12 0) (by kernel_rfl) rfl rfl ⟨(kC_ BK603.out 0).trans rfl, (kC_ BK603.out 1).trans rfl, hx616_0⟩ (fun hHeld => ?_); refine with_tabW impl_fillings.tab19 impl_fillings.bits19 (fun HT_ HW_ => ?_); generalize w80.drew = w81 at HO_7 HL601_0 HL604_0 BK603 BK606 HB GG69 HL616_0 HQ82 HR616_0 HX616_0 hf69_0 hf69_1 hx616_0 hx69_0 hx69_1 hHeld ⊢; refine pure_ (i := 0) (N := some 107) (v := ?_) (a' := ?_) (mB_ 12 1) rfl rfl (any_of HT_.out (by kernel_rfl)) (fun _ _ _ h => h) (Or.inl ⟨by rfl, ?_⟩) ?_ ?_; rotate_left
                                ·
                                 intro w'
                                 go_simp
                                 with_reducible rfl
                                rotate_left
                                ·
                                 simp only [Act.put, z1_, z2_, z3_, i64_w, i32_w]
                                 rfl
                                refine pure_ (i := 1) (N := some 108) (v := ?_) (a' := ?_) (mB_ 12 3) rfl rfl (any_of HT_.out (by kernel_rfl)) (fun _ _ _ h => h) (Or.inl ⟨by rfl, ?_⟩) ?_ ?_; rotate_left
                                ·
                                 intro w'
                                 go_simp
                                 with_reducible rfl
                                rotate_left
                                ·
                                 simp only [Act.put, z1_, z2_, z3_, i64_w, i32_w]
                                 rfl
                                refine pure_ (i := 2) (N := some 109) (v := ?_) (a' := ?_) (mB_ 12 7) rfl rfl (any_of HT_.out (by kernel_rfl)) (fun _ _ _ h => h) (Or.inl ⟨by rfl, ?_⟩) ?_ ?_; rotate_left
                                ·
                                 intro w'
                                 go_simp
                                 with_reducible rfl
                                rotate_left
                                ·
                                 simp only [Act.put, z1_, z2_, z3_, i64_w, i32_w]
                                 rfl
                                refine pure_ (i := 4) (N := some 111) (v := ?_) (a' := ?_) (mB_ 12 23) rfl rfl (any_of HT_.out (by kernel_rfl)) (fun _ _ _ h => h) (Or.inl ⟨by rfl, ?_⟩) ?_ ?_; rotate_left
                                ·
                                 intro w'
                                 go_simp
                                 with_reducible rfl
                                rotate_left
                                ·
                                 simp only [Act.put, z1_, z2_, z3_, i64_w, i32_w]
                                 rfl
                                refine pure_ (i := 5) (N := some 112) (v := ?_) (a' := ?_) (mB_ 12 55) rfl rfl (any_of HT_.out (by kernel_rfl)) (fun _ _ _ h => h) (Or.inl ⟨by rfl, ?_⟩) ?_ ?_; rotate_left
                                ·
                                 intro w'
                                 go_simp
                                 with_reducible rfl
                                rotate_left
                                ·
                                 simp only [Act.put, z1_, z2_, z3_, i64_w, i32_w]
                                 rfl
                                refine pure_ (i := 7) (N := some 114) (v := ?_) (a' := ?_) (mB_ 12 183) rfl rfl (any_of HT_.out (by kernel_rfl)) (fun _ _ _ h => h) (Or.inl ⟨by rfl, ?_⟩) ?_ ?_; rotate_left
                                ·
                                 intro w'
                                 go_simp
                                 with_reducible rfl
                                rotate_left
                                ·
                                 simp only [Act.put, z1_, z2_, z3_, i64_w, i32_w]
                                 rfl
                                refine take_ (i := 3) (N := some 110) (v := ?_) (a' := ?_) (mB_ 12 191) rfl rfl (take_ofW HT_.out HW_.out (by kernel_rfl)) (fun _ _ _ h => h) (Or.inl ⟨by rfl, ?_⟩) hHeld ?_ ?_; rotate_left
                                ·
                                 rintro w' ⟨s0, s1, s2⟩
                                 go_simp
                                 with_reducible rfl
                                rotate_left
                                ·
                                 simp only [Act.put, z1_, z2_, z3_, i64_w, i32_w]
                                 rfl
                                refine take_ (i := 6) (N := some 113) (v := ?_) (a' := ?_) (mB_ 12 255) rfl rfl (take_ofW HT_.out HW_.out (by kernel_rfl)) (fun _ _ _ h => h) (Or.inl ⟨by rfl, ?_⟩) hHeld ?_ ?_; rotate_left
                                ·
                                 rintro w' ⟨s0, s1, s2⟩
                                 go_simp
                                 with_reducible rfl
                                rotate_left
                                ·
                                 simp only [Act.put, z1_, z2_, z3_, i64_w, i32_w]
                                 rfl
                                refine pure_ (i := 8) (N := some 115) (v := ?_) (a' := ?_) (mB_ 12 511) rfl rfl (any_of HT_.out (by kernel_rfl)) (fun _ _ _ h => h) (Or.inl ⟨by rfl, ?_⟩) ?_ ?_; rotate_left
                                ·
                                 intro w'
                                 go_simp
                                 with_reducible rfl
                                rotate_left
                                ·
                                 simp only [Act.put, z1_, z2_, z3_, i64_w, i32_w]
                                 rfl
                                refine pure_ (i := 9) (N := some 116) (v := ?_) (a' := ?_) (mB_ 12 1023) rfl rfl (any_of HT_.out (by kernel_rfl)) (fun _ _ _ h => h) (Or.inl ⟨by rfl, ?_⟩) ?_ ?_; rotate_left
                                ·
                                 intro w'
                                 go_simp
                                 with_reducible rfl
                                rotate_left
                                ·
                                 simp only [Act.put, z1_, z2_, z3_, i64_w, i32_w]
                                 rfl
                                refine pure_ (i := 10) (N := some 117) (v := ?_) (a' := ?_) (mB_ 12 2047) rfl rfl (any_of HT_.out (by kernel_rfl)) (fun _ _ _ h => h) (Or.inl ⟨by rfl, ?_⟩) ?_ ?_; rotate_left
                                ·
                                 intro w'
                                 go_simp
                                 with_reducible rfl
                                rotate_left
                                ·
                                 simp only [Act.put, z1_, z2_, z3_, i64_w, i32_w]
                                 rfl
                                refine last_ (i := 11) (N := none) (mB_ 12 4095) rfl rfl (one_of HT_.out (by kernel_rfl)) (by decide) (fun K hK => ?_); refine skip_ (w1 := ?_) (by rfl) rfl ?_ ?_; rotate_left
                                ·
                                 go_simp
                                 rfl
                                refine hK.out _ _ ?_; clear hK K; refine done_ (done_of HT_.out (by kernel_rfl)) ?_
                                try go_wp2
                                have n0_ : Aside0 (Kd.S (Kd.slice 108 k108) 109 (w81.setCell ⟨go69, (x53_2 : Int).toNat * 2 + 1, none⟩ (.int .i64 (wrap64 (((rd_T108 (rd_L9 x7_3 (ji37)) (ji40)).f1) + x11_3)))) w.heap.size (fun k_ => k_ ≠ gb603 ∧ k_ ≠ gb606) (.slice (some ⟨go15, 0, none⟩) x7_3.length co15) y619) := ⟨by (with_reducible repeat (first | apply Kd.S_alloc | apply Kd.S_drewN | apply Kd.S_drew)); exact HQ82.out⟩
                                have n1_ : Aside0 ((w81.setCell ⟨go69, (x53_2 : Int).toNat * 2 + 1, none⟩ (.int .i64 (wrap64 (((rd_T108 (rd_L9 x7_3 (ji37)) (ji40)).f1) + x11_3)))).heap[gb603]? = some (.cells #[.int .i64 ((rd_T108 (rd_L9 x7_3 (ji37)) (ji40)).f0), .int .i64 ((rd_T108 (rd_L9 x7_3 (ji37)) (ji40)).f1)] 108 (0, 0))) := ⟨by (with_reducible repeat (first | apply kN_ | apply kD_ | apply kA_)); refine blk_far ?_ (by have h_ := Kd.R_away HL616_0.out (fun _ hk => hk.1.1); intro e_; exact h_ (by rw [e_]; rfl)) _; (with_reducible repeat (first | apply kN_ | apply kD_ | apply kA_)); exact BK603.out⟩
                                have n2_ : Aside0 ((w81.setCell ⟨go69, (x53_2 : Int).toNat * 2 + 1, none⟩ (.int .i64 (wrap64 (((rd_T108 (rd_L9 x7_3 (ji37)) (ji40)).f1) + x11_3)))).heap[gb606]? = some (.cells #[.int .i64 ((rd_T108 (rd_L9 x7_3 x8_1) x53_2).f0), .int .i64 ((rd_T108 (rd_L9 x7_3 x8_1) x53_2).f1)] 108 (0, 0))) := ⟨by (with_reducible repeat (first | apply kN_ | apply kD_ | apply kA_)); refine blk_far ?_ (by have h_ := Kd.R_away HL616_0.out (fun _ hk => hk.1.2); intro e_; exact h_ (by rw [e_]; rfl)) _; (with_reducible repeat (first | apply kN_ | apply kD_ | apply kA_)); exact BK606.out⟩
                                have n3_ : Aside0 (Below w.heap.size w (w81.setCell ⟨go69, (x53_2 : Int).toNat * 2 + 1, none⟩ (.int .i64 (wrap64 (((rd_T108 (rd_L9 x7_3 (ji37)) (ji40)).f1) + x11_3))))) := ⟨by repeat (first | (with_reducible first | exact HB.out | apply bA_ | apply bN_ | apply bD_ | refine bS_ ?_ GB69.out | refine bS_ ?_ GE603.out | refine bS_ ?_ GE606.out) | exact HB.out)⟩
                                (try clear HO_7); (try clear BK603); (try clear BK606); (try clear HB); generalize (w81.setCell ⟨go69, (x53_2 : Int).toNat * 2 + 1, none⟩ (.int .i64 (wrap64 (((rd_T108 (rd_L9 x7_3 (ji37)) (ji40)).f1) + x11_3)))) = w84 at n0_ n1_ n2_ n3_ ⊢; have HO_7 := n0_; have BK603 := n1_; have BK606 := n2_; have HB := n3_; clear n0_ n1_ n2_ n3_; have n0_ := am_ (Kd.S_drew HO_7.out); have n1_ := am_ (kD_ BK603.out); have n2_ := am_ (kD_ BK606.out); have n3_ := am_ (bD_ HB.out); clear HO_7; clear BK603; clear BK606; clear HB; have HO_7 := n0_; have BK603 := n1_; have BK606 := n2_; have HB := n3_; clear n0_ n1_ n2_ n3_; have p620 : 0 ≤ (x8_1 : Int) := od_ (by first | (with_reducible assumption) | assumption); have q620 : x8_1 < (y619.length : Int) := (by have h_ : (x8_1 : Int) < ((x7_3.length : Int) : Int) := od_ (by first | (with_reducible assumption) | assumption); first | (have e_ := (Kd.S_reads' HO_7.out).1; omega) | simpa only [Ny619.out, List.length_set] using h_)
                                have ql620 : ((x8_1 : Int) < ((x7_3.length : Int) : Int)) = True := eq_true (od_ (by first | (with_reducible assumption) | assumption)); obtain ⟨ad620, A620_0, c620_0, e620, hx620_0, hl620_0, hi620_0⟩ := at_L9 (Kd.S_reads' HO_7.out).2.2 x8_1 p620 q620; obtain rfl : (⟨go15, 0, none⟩ : Addr) = ad620 := (by injection e620)
                                obtain ⟨ce620, hce620, hMe620, hcc620⟩ := Kd.S_get HO_7.out [] x8_1 p620 (by first | exact q620 | exact od_ (by first | (with_reducible assumption) | assumption) | (have e_ := (Kd.S_reads' HO_7.out).1; omega)); obtain ⟨ve620_0, rfl, ge620_0⟩ := hMe620; have hv620_0 := hcc620 0 _ rfl; rw [Nat.add_zero, show ((Kd.slice 108 k108)).sz = 1 from rfl, Nat.mul_one] at hv620_0; replace hv620_0 := Option.some.inj (hv620_0.symm.trans hx620_0); rw [hv620_0] at ge620_0; have HL620_0 := am_ (show Kd.R k108 108 _ _ _ _ (rd_L9 y619 x8_1) from ge620_0); clear hv620_0 ge620_0; have HX620_0 := am_ hx620_0; clear hcc620 hce620
                                (first | simp only [add_plain] at hx620_0 | simp only [add_at] at hx620_0 | simp only [Addr.add, Nat.zero_add] at hx620_0 | skip)
                                have HR620_0 := am_ hi620_0; have HC620_0 := am_ hl620_0; clear hi620_0 hl620_0; replace p620 := eq_true p620; replace q620 := eq_true q620; have p621 : 0 ≤ (x53_2 : Int) := od_ (by first | (with_reducible assumption) | assumption); have q621 : x53_2 < ((rd_L9 y619 x8_1).length : Int) := od_ (by first | (with_reducible assumption) | assumption); obtain ⟨ad621, e621, hx621_0, hx621_1⟩ := at_T108 (by repeat (first | (with_reducible exact HR620_0.out) | (with_reducible refine Kd.C_alloc ?_ _) | (with_reducible refine Kd.C_drewN ?_ _) | (with_reducible refine Kd.C_drew ?_) | exact HR620_0.out)) x53_2 p621 q621
                                cases e621
                                replace p621 := eq_true p621; replace q621 := eq_true q621; have p71 : 0 ≤ (x53_2 : Int) := od_ (by first | (with_reducible assumption) | assumption); have q71 : (x53_2 : Int) < (((rd_L9 y619 x8_1).length : Int) : Int) := od_ (by first | (with_reducible assumption) | assumption); obtain ⟨go71, co71, eo71, gb71, gl71, cl71, HG71⟩ := Kd.R_form HL620_0.out (by omega)
                                (first | cases eo71 | (injection eo71 with ea_ en_ ec_; (first | subst ea_ | (injection ea_ with ea_; subst ea_)); subst ec_; clear en_))
                                have GB71 := am_ gb71; have GG71 := am_ HG71; clear gb71 gl71 HG71
                                (first | simp only [add_plain] at hx621_0 | skip)
                                (first | simp only [add_plain] at hx621_1 | skip)
                                obtain ⟨ce71, hcl71, hM71, hcc71, hfr71⟩ := Kd.R_elem HL620_0.out z108 (x53_2 : Int) p71 q71; obtain rfl := k108_openM hM71; have hx71_0 : World.cell? _ ⟨go71, (x53_2 : Int).toNat * 2, none⟩ = some (.int .i64 ((rd_T108 (rd_L9 y619 x8_1) x53_2).f0)) := hcc71 0 _ rfl; have hx71_1 : World.cell? _ ⟨go71, (x53_2 : Int).toNat * 2 + 1, none⟩ = some (.int .i64 ((rd_T108 (rd_L9 y619 x8_1) x53_2).f1)) := hcc71 1 _ rfl; have hf71_0 : World.frozen? _ ⟨go71, (x53_2 : Int).toNat * 2, none⟩ = false := hfr71 0; have hf71_1 : World.frozen? _ ⟨go71, (x53_2 : Int).toNat * 2 + 1, none⟩ = false := hfr71 1; clear hcl71 hcc71 hfr71; (try clear hM71); replace p71 := eq_true p71; replace q71 := eq_true q71; have hq86 : (x8_1 : Int) < (y619.length : Int) := (by have h_ : (x8_1 : Int) < ((x7_3.length : Int) : Int) := od_ (by first | (with_reducible assumption) | assumption); first | exact h_ | (have e_ := (Kd.S_reads' HO_7.out).1; omega) | simpa only [Ny619.out, List.length_set] using h_)
                                obtain ⟨oki86, ce86, hcl86, hM86, hcc86, hok86, hbk86⟩ := Kd.S_borrow HO_7.out [] (x8_1 : Int) (od_ (by first | (with_reducible assumption) | assumption)) (by first | exact hq86 | (have e_ := (Kd.S_reads' HO_7.out).1; omega)); obtain ⟨ve86_0, rfl, ge86_0⟩ := hM86; have hv86 := hcc86 0 _ rfl; rw [Nat.add_zero, show ((Kd.slice 108 k108)).sz = 1 from rfl, Nat.mul_one] at hv86; replace hv86 := Option.some.inj (hv86.symm.trans HX620_0.out); subst hv86; clear hcc86 hcl86; replace ge86_0 := (show Kd.R k108 108 _ _ _ _ (rd_L9 y619 x8_1) from ge86_0)
                                obtain ⟨cf86, hcl86, hN86, hcc86, hfr86⟩ := Kd.R_elem ge86_0 z108 (x53_2 : Int) (od_ (by first | (with_reducible assumption) | assumption)) (by have h_ : (x53_2 : Int) < (((rd_L9 y619 x8_1).length : Int) : Int) := od_ (by first | (with_reducible assumption) | assumption); first | exact h_ | (have e_ := (Kd.R_reads' HR620_0.out).1; omega) | simpa using h_); obtain rfl := k108_openM hN86; have HP86 := Kd.R_seg ge86_0 (x53_2 : Int) (od_ (by first | (with_reducible assumption) | assumption)) (by have h_ : (x53_2 : Int) < (((rd_L9 y619 x8_1).length : Int) : Int) := od_ (by first | (with_reducible assumption) | assumption); first | exact h_ | (have e_ := (Kd.R_reads' HR620_0.out).1; omega) | simpa using h_) (seg := [.int .i64 (wrap64 (((rd_T108 (rd_L9 y619 x8_1) x53_2).f0) + ((rd_T108 (rd_L9 x7_3 (ji37)) (ji40)).f0)))]) (j := 0) hcl86 hcc86 (show 1 ≤ 2 from by decide) (x' := (⟨wrap64 (((rd_T108 (rd_L9 y619 x8_1) x53_2).f0) + ((rd_T108 (rd_L9 x7_3 (ji37)) (ji40)).f0)), (rd_T108 (rd_L9 y619 x8_1) x53_2).f1⟩ : S108)) (k108_mkM _ _ _ (⟨wrap64 (((rd_T108 (rd_L9 y619 x8_1) x53_2).f0) + ((rd_T108 (rd_L9 x7_3 (ji37)) (ji40)).f0)), (rd_T108 (rd_L9 y619 x8_1) x53_2).f1⟩ : S108)) (fun _ hk => hk); clear hcl86 hcc86 hfr86; (try clear hN86); rw [← Ny622.out] at HP86; have HS86 := hbk86 HP86.2 (fun k_ e_ => by injection e_ with e_; subst e_; exact ge86_0.1 _ rfl) (x' := y622) (Kd.M_row HP86.1); rw [← Ny624.out] at HS86; have HQ86 := am_ HS86; clear HP86 HS86 hbk86 hok86; refine start_ (n := 14) (S := fun w' => w'.cell? ⟨gb603, 0, none⟩ = some (.int .i64 ((rd_T108 (rd_L9 x7_3 (ji37)) (ji40)).f0)) ∧ w'.cell? ⟨gb603, 1, none⟩ = some (.int .i64 ((rd_T108 (rd_L9 x7_3 (ji37)) (ji40)).f1)) ∧ w'.cell? ⟨go15, (x8_1).toNat, none⟩ = some (.slice (some ⟨go71, 0, none⟩) (rd_L9 y619 x8_1).length c620_0) ∧ w'.cell? ⟨go71, ((x53_2).toNat * 2), none⟩ = some (.int .i64 ((rd_T108 (rd_L9 y619 x8_1) x53_2).f0)) ∧ w'.cell? ⟨go71, ((x53_2).toNat * 2) + 1, none⟩ = some (.int .i64 ((rd_T108 (rd_L9 y619 x8_1) x53_2).f1))) (ds := [13]) (mB_ 14 0) (by kernel_rfl) rfl rfl ⟨(kC_ BK603.out 0).trans rfl, (kC_ BK603.out 1).trans rfl, hx620_0, hx621_0, hx621_1⟩ (fun hHeld => ?_); refine with_tabW impl_fillings.tab20 impl_fillings.bits20 (fun HT_ HW_ => ?_); generalize w84.drew = w85 at HO_7 BK603 BK606 HB GG71 HL620_0 HQ82 HQ86 HR620_0 HX620_0 hf71_0 hf71_1 hx620_0 hx621_0 hx621_1 hx71_0 hx71_1 hHeld ⊢; refine pure_ (i := 0) (N := some 118) (v := ?_) (a' := ?_) (mB_ 14 1) rfl rfl (any_of HT_.out (by kernel_rfl)) (fun _ _ _ h => h) (Or.inl ⟨by rfl, ?_⟩) ?_ ?_; rotate_left
                                ·
                                 intro w'
                                 go_simp
                                 with_reducible rfl
                                rotate_left
                                ·
                                 simp only [Act.put, z1_, z2_, z3_, i64_w, i32_w]
                                 rfl
                                refine pure_ (i := 1) (N := some 119) (v := ?_) (a' := ?_) (mB_ 14 3) rfl rfl (any_of HT_.out (by kernel_rfl)) (fun _ _ _ h => h) (Or.inl ⟨by rfl, ?_⟩) ?_ ?_; rotate_left
                                ·
                                 intro w'
                                 go_simp
                                 with_reducible rfl
                                rotate_left
                                ·
                                 simp only [Act.put, z1_, z2_, z3_, i64_w, i32_w]
                                 rfl
                                refine pure_ (i := 2) (N := some 120) (v := ?_) (a' := ?_) (mB_ 14 7) rfl rfl (any_of HT_.out (by kernel_rfl)) (fun _ _ _ h => h) (Or.inl ⟨by rfl, ?_⟩) ?_ ?_; rotate_left
                                ·
                                 intro w'
                                 go_simp
                                 with_reducible rfl
                                rotate_left
                                ·
                                 simp only [Act.put, z1_, z2_, z3_, i64_w, i32_w]
                                 rfl
                                refine pure_ (i := 4) (N := some 122) (v := ?_) (a' := ?_) (mB_ 14 23) rfl rfl (any_of HT_.out (by kernel_rfl)) (fun _ _ _ h => h) (Or.inl ⟨by rfl, ?_⟩) ?_ ?_; rotate_left
                                ·
                                 intro w'
                                 go_simp
                                 with_reducible rfl
                                rotate_left
                                ·
                                 simp only [Act.put, z1_, z2_, z3_, i64_w, i32_w]
                                 rfl
                                refine pure_ (i := 8) (N := some 126) (v := ?_) (a' := ?_) (mB_ 14 279) rfl rfl (any_of HT_.out (by kernel_rfl)) (fun _ _ _ h => h) (Or.inl ⟨by rfl, ?_⟩) ?_ ?_; rotate_left
                                ·
                                 intro w'
                                 go_simp
                                 with_reducible rfl
                                rotate_left
                                ·
                                 simp only [Act.put, z1_, z2_, z3_, i64_w, i32_w]
                                 rfl
                                refine take_ (i := 3) (N := some 121) (v := ?_) (a' := ?_) (mB_ 14 287) rfl rfl (take_ofW HT_.out HW_.out (by kernel_rfl)) (fun _ _ _ h => h) (Or.inl ⟨by rfl, ?_⟩) hHeld ?_ ?_; rotate_left
                                ·
                                 rintro w' ⟨s0, s1, s2, s3, s4⟩
                                 go_simp
                                 with_reducible rfl
                                rotate_left
                                ·
                                 simp only [Act.put, z1_, z2_, z3_, i64_w, i32_w]
                                 rfl
                                refine pure_ (i := 5) (N := some 123) (v := ?_) (a' := ?_) (mB_ 14 319) rfl rfl (any_of HT_.out (by kernel_rfl)) (fun _ _ _ h => h) (Or.inl ⟨by rfl, ?_⟩) ?_ ?_; rotate_left
                                ·
                                 intro w'
                                 go_simp
                                 with_reducible rfl
                                rotate_left
                                ·
                                 simp only [Act.put, z1_, z2_, z3_, i64_w, i32_w]
                                 rfl
                                refine pure_ (i := 6) (N := some 124) (v := ?_) (a' := ?_) (mB_ 14 383) rfl rfl (any_of HT_.out (by kernel_rfl)) (fun _ _ _ h => h) (Or.inl ⟨by rfl, ?_⟩) ?_ ?_; rotate_left
                                ·
                                 intro w'
                                 go_simp
                                 with_reducible rfl
                                rotate_left
                                ·
                                 simp only [Act.put, z1_, z2_, z3_, i64_w, i32_w]
                                 rfl
                                refine take_ (i := 7) (N := some 125) (v := ?_) (a' := ?_) (mB_ 14 511) rfl rfl (take_ofW HT_.out HW_.out (by kernel_rfl)) (fun _ _ _ h => h) (Or.inl ⟨by rfl, ?_⟩) hHeld ?_ ?_; rotate_left
                                ·
                                 rintro w' ⟨s0, s1, s2, s3, s4⟩
                                 go_simp
                                 with_reducible rfl
                                rotate_left
                                ·
                                 simp only [Act.put, z1_, z2_, z3_, i64_w, i32_w]
                                 rfl
                                refine take_ (i := 9) (N := some 127) (v := ?_) (a' := ?_) (mB_ 14 1023) rfl rfl (take_ofW HT_.out HW_.out (by kernel_rfl)) (fun _ _ _ h => h) (Or.inl ⟨by rfl, ?_⟩) hHeld ?_ ?_; rotate_left
                                ·
                                 rintro w' ⟨s0, s1, s2, s3, s4⟩
                                 go_simp
                                 with_reducible rfl
                                rotate_left
                                ·
                                 simp only [Act.put, z1_, z2_, z3_, i64_w, i32_w]
                                 rfl
                                refine pure_ (i := 10) (N := some 128) (v := ?_) (a' := ?_) (mB_ 14 2047) rfl rfl (any_of HT_.out (by kernel_rfl)) (fun _ _ _ h => h) (Or.inl ⟨by rfl, ?_⟩) ?_ ?_; rotate_left
                                ·
                                 intro w'
                                 go_simp
                                 with_reducible rfl
                                rotate_left
                                ·
                                 simp only [Act.put, z1_, z2_, z3_, i64_w, i32_w]
                                 rfl
                                refine pure_ (i := 11) (N := some 129) (v := ?_) (a' := ?_) (mB_ 14 4095) rfl rfl (any_of HT_.out (by kernel_rfl)) (fun _ _ _ h => h) (Or.inl ⟨by rfl, ?_⟩) ?_ ?_; rotate_left
                                ·
                                 intro w'
                                 go_simp
                                 with_reducible rfl
                                rotate_left
                                ·
                                 simp only [Act.put, z1_, z2_, z3_, i64_w, i32_w]
                                 rfl
                                refine pure_ (i := 12) (N := some 130) (v := ?_) (a' := ?_) (mB_ 14 8191) rfl rfl (any_of HT_.out (by kernel_rfl)) (fun _ _ _ h => h) (Or.inl ⟨by rfl, ?_⟩) ?_ ?_; rotate_left
                                ·
                                 intro w'
                                 go_simp
                                 with_reducible rfl
                                rotate_left
                                ·
                                 simp only [Act.put, z1_, z2_, z3_, i64_w, i32_w]
                                 rfl
                                refine last_ (i := 13) (N := none) (mB_ 14 16383) rfl rfl (one_of HT_.out (by kernel_rfl)) (by decide) (fun K hK => ?_); refine skip_ (w1 := ?_) (by rfl) rfl ?_ ?_; rotate_left
                                ·
                                 go_simp
                                 rfl
                                refine hK.out _ _ ?_; clear hK K; refine done_ (done_of HT_.out (by kernel_rfl)) ?_
                                try go_wp2
                                (try simp only [← hl7_3])
                                go_roundg k3
                                case measure => have := HK1.out; have := HK2.out; have := HK3.out; omega
                                case rel => exact ⟨(y624), (wrap64 (x11_3 + 1)), (by first | rfl | (simp; done) | (simp [*]; done)), H', ⟨by have := HK1.out; have := HK2.out; have := HK3.out; omega⟩, ⟨by (try simp only [hl7_2]); (try simp only [hl7_3]); (with_reducible repeat (first | apply Kd.S_alloc | apply Kd.S_drewN | apply Kd.S_drew)); exact Kd.S_mono HQ86.out (fun _ hk => trivial)⟩, ⟨by repeat (first | (with_reducible first | exact HB.out | apply bA_ | apply bN_ | apply bD_ | refine bS_ ?_ GB71.out | refine bS_ ?_ GE603.out | refine bS_ ?_ GE606.out) | exact HB.out)⟩⟩
                               ·
                                rw [if_neg c70] at H; exact absurd H (by simp)
                              ·
                               rw [if_neg c68] at H; have c68b0 : decide ((wrap64 (((rd_T108 (rd_L9 x7_3 (ji37)) (ji40)).f1) + x11_3)) < ((rd_T108 (rd_L9 x7_3 x8_1) x53_2).f1)) = false := decide_eq_false c68; clear c68; obtain ⟨y627, hy627⟩ : ∃ y_ : List (S108), y_ = ((rd_L9 x7_3 x8_1).set (x53_2 : Int).toNat (⟨wrap64 (((rd_T108 (rd_L9 x7_3 x8_1) x53_2).f0) + ((rd_T108 (rd_L9 x7_3 (ji37)) (ji40)).f0)), (rd_T108 (rd_L9 x7_3 x8_1) x53_2).f1⟩ : S108)) := ⟨_, rfl⟩
                               replace H : (impl_fillings.l2 k3 l0 a1 a2 (x7_3.set (x8_1 : Int).toNat y627) x8_1 (wrap64 ((wrap64 ((rd_T68 l0 x8_1).f0)) + a2)) x53_2 (wrap64 (x11_3 + 1)) ((rd_L9 y593 x8_1).length : Int) x53_2) = some r := by first | (rw [hy627]; with_reducible exact H) | (have H2_ := (Option.bind_some _ _).symm.trans H; rw [hy627]; with_reducible exact H2_) | (have H2_ := (Option.bind_some _ _).symm.trans H; with_reducible exact H2_) | with_reducible exact H | (rw [hy627]; exact H) | exact H
                               have Ny627 := am_ hy627; clear hy627; obtain ⟨y629, hy629⟩ : ∃ y_ : List (List (S108)), y_ = (x7_3.set (x8_1 : Int).toNat y627) := ⟨_, rfl⟩
                               replace H : (impl_fillings.l2 k3 l0 a1 a2 y629 x8_1 (wrap64 ((wrap64 ((rd_T68 l0 x8_1).f0)) + a2)) x53_2 (wrap64 (x11_3 + 1)) ((rd_L9 y593 x8_1).length : Int) x53_2) = some r := by first | (rw [hy629]; with_reducible exact H) | (have H2_ := (Option.bind_some _ _).symm.trans H; rw [hy629]; with_reducible exact H2_) | (have H2_ := (Option.bind_some _ _).symm.trans H; with_reducible exact H2_) | with_reducible exact H | (rw [hy629]; exact H) | exact H
                               have Ny629 := am_ hy629; clear hy629; have H' := am_ H; clear H; have p600 : 0 ≤ (x8_1 : Int) := od_ (by first | (with_reducible assumption) | assumption); have q600 : x8_1 < (l0.length : Int) := od_ (by first | (with_reducible assumption) | assumption); obtain ⟨ad600, e600, hx600_0, hx600_1⟩ := at_T68 HR0.out x8_1 p600 q600; obtain rfl : ad598 = ad600 := (by injection e600)
                               replace hx600_0 := (HB.out.cell (bl_ w _ hx600_0)).trans hx600_0; replace hx600_1 := (HB.out.cell (bl_ w _ hx600_1)).trans hx600_1; replace p600 := eq_true p600; replace q600 := eq_true q600; have p601 : 0 ≤ ((ji37) : Int) := od_ (by first | (with_reducible assumption) | assumption); have q601 : (ji37) < (x7_3.length : Int) := od_ (by first | (with_reducible assumption) | assumption); obtain ⟨ad601, A601_0, c601_0, e601, hx601_0, hl601_0, hi601_0⟩ := at_L9 (Kd.S_reads' HO_7.out).2.2 (ji37) p601 q601; obtain rfl : (⟨go15, 0, none⟩ : Addr) = ad601 := (by injection e601)
                               obtain ⟨ce601, hce601, hMe601, hcc601⟩ := Kd.S_get HO_7.out [] (ji37) p601 (by first | exact q601 | exact od_ (by first | (with_reducible assumption) | assumption) | (have e_ := (Kd.S_reads' HO_7.out).1; omega)); obtain ⟨ve601_0, rfl, ge601_0⟩ := hMe601; have hv601_0 := hcc601 0 _ rfl; rw [Nat.add_zero, show ((Kd.slice 108 k108)).sz = 1 from rfl, Nat.mul_one] at hv601_0; replace hv601_0 := Option.some.inj (hv601_0.symm.trans hx601_0); rw [hv601_0] at ge601_0; have HL601_0 := am_ (show Kd.R k108 108 _ _ _ _ (rd_L9 x7_3 (ji37)) from ge601_0); clear hv601_0 ge601_0; have HX601_0 := am_ hx601_0; clear hcc601 hce601
                               (first | simp only [add_plain] at hx601_0 | simp only [add_at] at hx601_0 | simp only [Addr.add, Nat.zero_add] at hx601_0 | skip)
                               have HR601_0 := am_ hi601_0; have HC601_0 := am_ hl601_0; clear hi601_0 hl601_0; replace p601 := eq_true p601; replace q601 := eq_true q601; have p602 : 0 ≤ ((ji40) : Int) := od_ (by first | (with_reducible assumption) | assumption); have q602 : (ji40) < ((rd_L9 x7_3 (ji37)).length : Int) := od_ (by first | (with_reducible assumption) | assumption); obtain ⟨ad602, e602, hx602_0, hx602_1⟩ := at_T108 (by repeat (first | (with_reducible exact HR601_0.out) | (with_reducible refine Kd.C_alloc ?_ _) | (with_reducible refine Kd.C_drewN ?_ _) | (with_reducible refine Kd.C_drew ?_) | exact HR601_0.out)) (ji40) p602 q602
                               cases e602
                               replace p602 := eq_true p602; replace q602 := eq_true q602
                               try go_wp2_with (first | ((with_reducible refine gate_dst (N := 12) rfl ?_); refine box_event ?hg (N := 12) ?hd (cs := #[.int .i64 0, .int .i64 0]) (t := 108) ?hr ?_; (case hd => rfl); (case hg => rfl); (case hr => first | (go_simp; done) | (go_simp; rfl)); intro gb603 hg w89 hbox hb; have n0_ := am_ (Kd.S_below (Kd.S_elderB (by (with_reducible repeat (first | apply Kd.S_alloc | apply Kd.S_drewN | apply Kd.S_drew)); exact HO_7.out) gb603 (Nat.le_of_eq hg.symm)) hb); have n1_ := am_ (Kd.R_below (Kd.R_elderB (by (with_reducible repeat (first | apply Kd.R_alloc | apply Kd.R_drewN | apply Kd.R_drew)); exact HL601_0.out) gb603 (Nat.le_of_eq hg.symm)) hb); have n2_ := am_ (Kd.C_below (by repeat (first | (with_reducible exact HR601_0.out) | (with_reducible refine Kd.C_alloc ?_ _) | (with_reducible refine Kd.C_drewN ?_ _) | (with_reducible refine Kd.C_drew ?_) | exact HR601_0.out)) hb); have n3_ := am_ (pw_cell_below hb HX601_0.out); have n4_ := am_ (bT_ (by repeat (first | (with_reducible first | exact HB.out | apply bA_ | apply bN_ | apply bD_) | exact HB.out)) hb); have n5_ := am_ (hbox); have n6_ := am_ ((by rw [hg]; exact (below_size (by repeat (first | (with_reducible first | exact HB.out | apply bA_ | apply bN_ | apply bD_) | exact HB.out))) : w.heap.size ≤ gb603)); have n7_ := n6_; clear HO_7; clear HL601_0; clear HR601_0; clear HX601_0; clear HB; have HO_7 := n0_; have HL601_0 := n1_; have HR601_0 := n2_; have HX601_0 := n3_; have HB := n4_; have BK603 := n5_; have GW603 := n6_; have GE603 := n7_; clear n0_ n1_ n2_ n3_ n4_ n5_ n6_ n7_; clear hb hbox hg; have hcz90_0 : w89.cell? ⟨gb603, 0, none⟩ = some (.int .i64 0) := (kC_ BK603.out 0).trans rfl; have hcz90_1 : w89.cell? ⟨gb603, 1, none⟩ = some (.int .i64 0) := (kC_ BK603.out 1).trans rfl; have hfz90_0 := kF_ BK603.out 0; have hfz90_1 := kF_ BK603.out 1) | ((with_reducible refine gate_store (t := 108) (p := 12) rfl ?_); refine store_event (t := 108) (p := 12) (v := ?vo_w91) (w1 := ((w89.setCell ⟨gb603, 0, none⟩ (.int .i64 ((rd_T108 (rd_L9 x7_3 (ji37)) (ji40)).f0))).setCell ⟨gb603, 1, none⟩ (.int .i64 ((rd_T108 (rd_L9 x7_3 (ji37)) (ji40)).f1)))) ?hg ?ho ?hn ?hr ?_; (case ho => rfl); (case hg => rfl); (case hn => rfl); (case hr => first | (go_simp; done) | (go_simp; rfl)); intro w91 hw; have n0_ : Aside0 (Kd.S (Kd.slice 108 k108) 109 w91 w.heap.size (fun k_ => k_ ≠ gb603) (.slice (some ⟨go15, 0, none⟩) x7_3.length co15) x7_3) := ⟨(by rw [hw]; exact (by (with_reducible repeat (first | apply Kd.S_alloc | apply Kd.S_drewN | apply Kd.S_drew)); exact Kd.S_mono (Kd.S_far (p := ⟨gb603, 1, none⟩) (Kd.S_far (p := ⟨gb603, 0, none⟩) (Kd.S_mono HO_7.out (fun k_ hk => (⟨hk, hk.2⟩ : _ ∧ k_ ≠ gb603))) (fun _ hk => hk.2) (.int .i64 ((rd_T108 (rd_L9 x7_3 (ji37)) (ji40)).f0))) (fun _ hk => hk.2) (.int .i64 ((rd_T108 (rd_L9 x7_3 (ji37)) (ji40)).f1))) (fun _ hk => hk.1.2)))⟩; have n1_ : Aside0 (Kd.R k108 108 w91 w.heap.size (fun k_ => some k_ ≠ (.slice (some ⟨go15, 0, none⟩) x7_3.length co15 : Value).ownBlock ∧ k_ ≠ gb603) (.slice (some ad602) (rd_L9 x7_3 (ji37)).length c601_0) (rd_L9 x7_3 (ji37))) := ⟨(by rw [hw]; exact (by (with_reducible repeat (first | apply Kd.R_alloc | apply Kd.R_drewN | apply Kd.R_drew)); exact Kd.R_mono (Kd.R_far (p := ⟨gb603, 1, none⟩) (Kd.R_far (p := ⟨gb603, 0, none⟩) (Kd.R_mono HL601_0.out (fun k_ hk => (⟨hk, hk.2⟩ : _ ∧ k_ ≠ gb603))) (fun _ hk => hk.2) (.int .i64 ((rd_T108 (rd_L9 x7_3 (ji37)) (ji40)).f0))) (fun _ hk => hk.2) (.int .i64 ((rd_T108 (rd_L9 x7_3 (ji37)) (ji40)).f1))) (fun _ hk => ⟨hk.1.1.2, hk.1.2⟩)))⟩; have n2_ : Aside0 (w91.heap[gb603]? = some (.cells #[.int .i64 ((rd_T108 (rd_L9 x7_3 (ji37)) (ji40)).f0), .int .i64 ((rd_T108 (rd_L9 x7_3 (ji37)) (ji40)).f1)] 108 (0, 0))) := ⟨(by rw [hw]; exact (by (with_reducible repeat (first | apply kN_ | apply kD_ | apply kA_)); refine blk_put (cs := #[.int .i64 ((rd_T108 (rd_L9 x7_3 (ji37)) (ji40)).f0), .int .i64 0]) ?_ 1 _ rfl; (with_reducible repeat (first | apply kN_ | apply kD_ | apply kA_)); refine blk_put (cs := #[.int .i64 0, .int .i64 0]) ?_ 0 _ rfl; (with_reducible repeat (first | apply kN_ | apply kD_ | apply kA_)); exact BK603.out))⟩; have n3_ : Aside0 (Below w.heap.size w w91) := ⟨(by rw [hw]; exact (by repeat (first | (with_reducible first | exact HB.out | apply bA_ | apply bN_ | apply bD_ | refine bS_ ?_ GE603.out) | exact HB.out)))⟩; clear hw; clear HO_7; clear HL601_0; clear BK603; clear HB; have HO_7 := n0_; have HL601_0 := n1_; have BK603 := n2_; have HB := n3_; clear n0_ n1_ n2_ n3_; have hcz92_0 : w91.cell? ⟨gb603, 0, none⟩ = some (.int .i64 ((rd_T108 (rd_L9 x7_3 (ji37)) (ji40)).f0)) := (kC_ BK603.out 0).trans rfl; have hcz92_1 : w91.cell? ⟨gb603, 1, none⟩ = some (.int .i64 ((rd_T108 (rd_L9 x7_3 (ji37)) (ji40)).f1)) := (kC_ BK603.out 1).trans rfl; have hfz92_0 := kF_ BK603.out 0; have hfz92_1 := kF_ BK603.out 1; have p604 : 0 ≤ (x8_1 : Int) := od_ (by first | (with_reducible assumption) | assumption); have q604 : x8_1 < (x7_3.length : Int) := od_ (by first | (with_reducible assumption) | assumption); obtain ⟨ad604, A604_0, c604_0, e604, hx604_0, hl604_0, hi604_0⟩ := at_L9 (Kd.S_reads' HO_7.out).2.2 x8_1 p604 q604; obtain rfl : (⟨go15, 0, none⟩ : Addr) = ad604 := (by injection e604); obtain ⟨ce604, hce604, hMe604, hcc604⟩ := Kd.S_get HO_7.out [] x8_1 p604 (by first | exact q604 | exact od_ (by first | (with_reducible assumption) | assumption) | (have e_ := (Kd.S_reads' HO_7.out).1; omega)); obtain ⟨ve604_0, rfl, ge604_0⟩ := hMe604; have hv604_0 := hcc604 0 _ rfl; rw [Nat.add_zero, show ((Kd.slice 108 k108)).sz = 1 from rfl, Nat.mul_one] at hv604_0; replace hv604_0 := Option.some.inj (hv604_0.symm.trans hx604_0); rw [hv604_0] at ge604_0; have HL604_0 := am_ (show Kd.R k108 108 _ _ _ _ (rd_L9 x7_3 x8_1) from ge604_0); clear hv604_0 ge604_0; have HX604_0 := am_ hx604_0; clear hcc604 hce604; (first | simp only [add_plain] at hx604_0 | simp only [add_at] at hx604_0 | simp only [Addr.add, Nat.zero_add] at hx604_0 | skip); have HR604_0 := am_ hi604_0; have HC604_0 := am_ hl604_0; clear hi604_0 hl604_0; replace p604 := eq_true p604; replace q604 := eq_true q604; have p605 : 0 ≤ (x53_2 : Int) := od_ (by first | (with_reducible assumption) | assumption); have q605 : x53_2 < ((rd_L9 x7_3 x8_1).length : Int) := od_ (by first | (with_reducible assumption) | assumption); obtain ⟨ad605, e605, hx605_0, hx605_1⟩ := at_T108 (by repeat (first | (with_reducible exact HR604_0.out) | (with_reducible refine Kd.C_alloc ?_ _) | (with_reducible refine Kd.C_drewN ?_ _) | (with_reducible refine Kd.C_drew ?_) | exact HR604_0.out)) x53_2 p605 q605; cases e605; replace p605 := eq_true p605; replace q605 := eq_true q605) | ((with_reducible refine gate_dst (N := 13) rfl ?_); refine box_event ?hg (N := 13) ?hd (cs := #[.int .i64 0, .int .i64 0]) (t := 108) ?hr ?_; (case hd => rfl); (case hg => rfl); (case hr => first | (go_simp; done) | (go_simp; rfl)); intro gb606 hg w93 hbox hb; have n0_ := am_ (Kd.S_below (Kd.S_elderB (by (with_reducible repeat (first | apply Kd.S_alloc | apply Kd.S_drewN | apply Kd.S_drew)); exact HO_7.out) gb606 (Nat.le_of_eq hg.symm)) hb); have n1_ := am_ (Kd.R_below (Kd.R_elderB (by (with_reducible repeat (first | apply Kd.R_alloc | apply Kd.R_drewN | apply Kd.R_drew)); exact HL601_0.out) gb606 (Nat.le_of_eq hg.symm)) hb); have n2_ := am_ (Kd.R_below (Kd.R_elderB (by (with_reducible repeat (first | apply Kd.R_alloc | apply Kd.R_drewN | apply Kd.R_drew)); exact HL604_0.out) gb606 (Nat.le_of_eq hg.symm)) hb); have n3_ := am_ (blk_below (g := gb603) (o := .cells #[.int .i64 ((rd_T108 (rd_L9 x7_3 (ji37)) (ji40)).f0), .int .i64 ((rd_T108 (rd_L9 x7_3 (ji37)) (ji40)).f1)] 108 (0, 0)) (by (with_reducible repeat (first | apply kN_ | apply kD_ | apply kA_)); exact BK603.out) hb); have n4_ := am_ (Kd.C_below (by repeat (first | (with_reducible exact HR604_0.out) | (with_reducible refine Kd.C_alloc ?_ _) | (with_reducible refine Kd.C_drewN ?_ _) | (with_reducible refine Kd.C_drew ?_) | exact HR604_0.out)) hb); have n5_ := am_ (pw_cell_below hb HX604_0.out); have n6_ := am_ (bT_ (by repeat (first | (with_reducible first | exact HB.out | apply bA_ | apply bN_ | apply bD_ | refine bS_ ?_ GE603.out) | exact HB.out)) hb); have n7_ := am_ (hbox); have n8_ := am_ ((by rw [hg]; exact (below_size (by repeat (first | (with_reducible first | exact HB.out | apply bA_ | apply bN_ | apply bD_ | refine bS_ ?_ GE603.out) | exact HB.out))) : w.heap.size ≤ gb606)); have n9_ := n8_; have n10_ := am_ ((by rw [hg]; exact Nat.ne_of_lt (blk_lt (g := gb603) (o := .cells #[.int .i64 ((rd_T108 (rd_L9 x7_3 (ji37)) (ji40)).f0), .int .i64 ((rd_T108 (rd_L9 x7_3 (ji37)) (ji40)).f1)] 108 (0, 0)) (by (with_reducible repeat (first | apply kN_ | apply kD_ | apply kA_)); exact BK603.out)) : gb603 ≠ gb606)); have n11_ := am_ ((by rw [hg]; exact Nat.ne_of_gt (blk_lt (g := gb603) (o := .cells #[.int .i64 ((rd_T108 (rd_L9 x7_3 (ji37)) (ji40)).f0), .int .i64 ((rd_T108 (rd_L9 x7_3 (ji37)) (ji40)).f1)] 108 (0, 0)) (by (with_reducible repeat (first | apply kN_ | apply kD_ | apply kA_)); exact BK603.out)) : gb606 ≠ gb603)); clear HO_7; clear HL601_0; clear HL604_0; clear BK603; clear HR604_0; clear HX604_0; clear HB; have HO_7 := n0_; have HL601_0 := n1_; have HL604_0 := n2_; have BK603 := n3_; have HR604_0 := n4_; have HX604_0 := n5_; have HB := n6_; have BK606 := n7_; have GW606 := n8_; have GE606 := n9_; have NB603_606 := n10_; have NB606_603 := n11_; clear n0_ n1_ n2_ n3_ n4_ n5_ n6_ n7_ n8_ n9_ n10_ n11_; clear hb hbox hg; have hnb94 := NB606_603.out; have hnc94 := NB603_606.out; have hcz95_0 : w93.cell? ⟨gb606, 0, none⟩ = some (.int .i64 0) := (kC_ BK606.out 0).trans rfl; have hcz95_1 : w93.cell? ⟨gb606, 1, none⟩ = some (.int .i64 0) := (kC_ BK606.out 1).trans rfl; have hfz95_0 := kF_ BK606.out 0; have hfz95_1 := kF_ BK606.out 1; have hcz96_0 : w93.cell? ⟨gb603, 0, none⟩ = some (.int .i64 ((rd_T108 (rd_L9 x7_3 (ji37)) (ji40)).f0)) := (kC_ BK603.out 0).trans rfl; have hcz96_1 : w93.cell? ⟨gb603, 1, none⟩ = some (.int .i64 ((rd_T108 (rd_L9 x7_3 (ji37)) (ji40)).f1)) := (kC_ BK603.out 1).trans rfl; have hfz96_0 := kF_ BK603.out 0; have hfz96_1 := kF_ BK603.out 1))
                               have n0_ : Aside0 (Kd.S (Kd.slice 108 k108) 109 ((w93.setCell ⟨gb606, 0, none⟩ (.int .i64 ((rd_T108 (rd_L9 x7_3 x8_1) x53_2).f0))).setCell ⟨gb606, 1, none⟩ (.int .i64 ((rd_T108 (rd_L9 x7_3 x8_1) x53_2).f1))) w.heap.size (fun k_ => k_ ≠ gb603 ∧ k_ ≠ gb606) (.slice (some ⟨go15, 0, none⟩) x7_3.length co15) x7_3) := ⟨by (with_reducible repeat (first | apply Kd.S_alloc | apply Kd.S_drewN | apply Kd.S_drew)); exact Kd.S_mono (Kd.S_far (p := ⟨gb606, 1, none⟩) (Kd.S_far (p := ⟨gb606, 0, none⟩) (Kd.S_mono HO_7.out (fun k_ hk => (⟨hk, hk.2⟩ : _ ∧ k_ ≠ gb606))) (fun _ hk => hk.2) (.int .i64 ((rd_T108 (rd_L9 x7_3 x8_1) x53_2).f0))) (fun _ hk => hk.2) (.int .i64 ((rd_T108 (rd_L9 x7_3 x8_1) x53_2).f1))) (fun _ hk => ⟨hk.1.1, hk.1.2⟩)⟩
                               have n1_ : Aside0 (Kd.R k108 108 ((w93.setCell ⟨gb606, 0, none⟩ (.int .i64 ((rd_T108 (rd_L9 x7_3 x8_1) x53_2).f0))).setCell ⟨gb606, 1, none⟩ (.int .i64 ((rd_T108 (rd_L9 x7_3 x8_1) x53_2).f1))) w.heap.size (fun k_ => some k_ ≠ (.slice (some ⟨go15, 0, none⟩) x7_3.length co15 : Value).ownBlock ∧ k_ ≠ gb603 ∧ k_ ≠ gb606) (.slice (some ad602) (rd_L9 x7_3 (ji37)).length c601_0) (rd_L9 x7_3 (ji37))) := ⟨by (with_reducible repeat (first | apply Kd.R_alloc | apply Kd.R_drewN | apply Kd.R_drew)); exact Kd.R_mono (Kd.R_far (p := ⟨gb606, 1, none⟩) (Kd.R_far (p := ⟨gb606, 0, none⟩) (Kd.R_mono HL601_0.out (fun k_ hk => (⟨hk, hk.2⟩ : _ ∧ k_ ≠ gb606))) (fun _ hk => hk.2) (.int .i64 ((rd_T108 (rd_L9 x7_3 x8_1) x53_2).f0))) (fun _ hk => hk.2) (.int .i64 ((rd_T108 (rd_L9 x7_3 x8_1) x53_2).f1))) (fun _ hk => ⟨hk.1.1.1, ⟨hk.1.1.2, hk.1.2⟩⟩)⟩
                               have n2_ : Aside0 (Kd.R k108 108 ((w93.setCell ⟨gb606, 0, none⟩ (.int .i64 ((rd_T108 (rd_L9 x7_3 x8_1) x53_2).f0))).setCell ⟨gb606, 1, none⟩ (.int .i64 ((rd_T108 (rd_L9 x7_3 x8_1) x53_2).f1))) w.heap.size (fun k_ => some k_ ≠ (.slice (some ⟨go15, 0, none⟩) x7_3.length co15 : Value).ownBlock ∧ k_ ≠ gb603 ∧ k_ ≠ gb606) (.slice (some ad605) (rd_L9 x7_3 x8_1).length c604_0) (rd_L9 x7_3 x8_1)) := ⟨by (with_reducible repeat (first | apply Kd.R_alloc | apply Kd.R_drewN | apply Kd.R_drew)); exact Kd.R_mono (Kd.R_far (p := ⟨gb606, 1, none⟩) (Kd.R_far (p := ⟨gb606, 0, none⟩) (Kd.R_mono HL604_0.out (fun k_ hk => (⟨hk, hk.2⟩ : _ ∧ k_ ≠ gb606))) (fun _ hk => hk.2) (.int .i64 ((rd_T108 (rd_L9 x7_3 x8_1) x53_2).f0))) (fun _ hk => hk.2) (.int .i64 ((rd_T108 (rd_L9 x7_3 x8_1) x53_2).f1))) (fun _ hk => ⟨hk.1.1.2, ⟨hk.1.1.1, hk.1.2⟩⟩)⟩
                               have n3_ : Aside0 (((w93.setCell ⟨gb606, 0, none⟩ (.int .i64 ((rd_T108 (rd_L9 x7_3 x8_1) x53_2).f0))).setCell ⟨gb606, 1, none⟩ (.int .i64 ((rd_T108 (rd_L9 x7_3 x8_1) x53_2).f1))).heap[gb603]? = some (.cells #[.int .i64 ((rd_T108 (rd_L9 x7_3 (ji37)) (ji40)).f0), .int .i64 ((rd_T108 (rd_L9 x7_3 (ji37)) (ji40)).f1)] 108 (0, 0))) := ⟨by (with_reducible repeat (first | apply kN_ | apply kD_ | apply kA_)); refine blk_far ?_ NB603_606.out _; (with_reducible repeat (first | apply kN_ | apply kD_ | apply kA_)); refine blk_far ?_ NB603_606.out _; (with_reducible repeat (first | apply kN_ | apply kD_ | apply kA_)); exact BK603.out⟩
                               have n4_ : Aside0 (((w93.setCell ⟨gb606, 0, none⟩ (.int .i64 ((rd_T108 (rd_L9 x7_3 x8_1) x53_2).f0))).setCell ⟨gb606, 1, none⟩ (.int .i64 ((rd_T108 (rd_L9 x7_3 x8_1) x53_2).f1))).heap[gb606]? = some (.cells #[.int .i64 ((rd_T108 (rd_L9 x7_3 x8_1) x53_2).f0), .int .i64 ((rd_T108 (rd_L9 x7_3 x8_1) x53_2).f1)] 108 (0, 0))) := ⟨by (with_reducible repeat (first | apply kN_ | apply kD_ | apply kA_)); refine blk_put (cs := #[.int .i64 ((rd_T108 (rd_L9 x7_3 x8_1) x53_2).f0), .int .i64 0]) ?_ 1 _ rfl; (with_reducible repeat (first | apply kN_ | apply kD_ | apply kA_)); refine blk_put (cs := #[.int .i64 0, .int .i64 0]) ?_ 0 _ rfl; (with_reducible repeat (first | apply kN_ | apply kD_ | apply kA_)); exact BK606.out⟩
                               have n5_ : Aside0 (Below w.heap.size w ((w93.setCell ⟨gb606, 0, none⟩ (.int .i64 ((rd_T108 (rd_L9 x7_3 x8_1) x53_2).f0))).setCell ⟨gb606, 1, none⟩ (.int .i64 ((rd_T108 (rd_L9 x7_3 x8_1) x53_2).f1)))) := ⟨by repeat (first | (with_reducible first | exact HB.out | apply bA_ | apply bN_ | apply bD_ | refine bS_ ?_ GE603.out | refine bS_ ?_ GE606.out) | exact HB.out)⟩
                               (try clear HO_7); (try clear HL601_0); (try clear HL604_0); (try clear BK603); (try clear BK606); (try clear HB); generalize ((w93.setCell ⟨gb606, 0, none⟩ (.int .i64 ((rd_T108 (rd_L9 x7_3 x8_1) x53_2).f0))).setCell ⟨gb606, 1, none⟩ (.int .i64 ((rd_T108 (rd_L9 x7_3 x8_1) x53_2).f1))) = w97 at n0_ n1_ n2_ n3_ n4_ n5_ ⊢; have HO_7 := n0_; have HL601_0 := n1_; have HL604_0 := n2_; have BK603 := n3_; have BK606 := n4_; have HB := n5_; clear n0_ n1_ n2_ n3_ n4_ n5_; have n0_ := am_ (Kd.S_drew HO_7.out); have n1_ := am_ (Kd.R_drew HL601_0.out); have n2_ := am_ (Kd.R_drew HL604_0.out); have n3_ := am_ (kD_ BK603.out); have n4_ := am_ (kD_ BK606.out); have n5_ := am_ (bD_ HB.out); clear HO_7; clear HL601_0; clear HL604_0; clear BK603; clear BK606; clear HB; have HO_7 := n0_; have HL601_0 := n1_; have HL604_0 := n2_; have BK603 := n3_; have BK606 := n4_; have HB := n5_; clear n0_ n1_ n2_ n3_ n4_ n5_; have p625 : 0 ≤ (x8_1 : Int) := od_ (by first | (with_reducible assumption) | assumption); have q625 : x8_1 < (x7_3.length : Int) := od_ (by first | (with_reducible assumption) | assumption); obtain ⟨ad625, A625_0, c625_0, e625, hx625_0, hl625_0, hi625_0⟩ := at_L9 (Kd.S_reads' HO_7.out).2.2 x8_1 p625 q625; obtain rfl : (⟨go15, 0, none⟩ : Addr) = ad625 := (by injection e625)
                               obtain ⟨ce625, hce625, hMe625, hcc625⟩ := Kd.S_get HO_7.out [] x8_1 p625 (by first | exact q625 | exact od_ (by first | (with_reducible assumption) | assumption) | (have e_ := (Kd.S_reads' HO_7.out).1; omega)); obtain ⟨ve625_0, rfl, ge625_0⟩ := hMe625; have hv625_0 := hcc625 0 _ rfl; rw [Nat.add_zero, show ((Kd.slice 108 k108)).sz = 1 from rfl, Nat.mul_one] at hv625_0; replace hv625_0 := Option.some.inj (hv625_0.symm.trans hx625_0); rw [hv625_0] at ge625_0; have HL625_0 := am_ (show Kd.R k108 108 _ _ _ _ (rd_L9 x7_3 x8_1) from ge625_0); clear hv625_0 ge625_0; have HX625_0 := am_ hx625_0; clear hcc625 hce625
                               (first | simp only [add_plain] at hx625_0 | simp only [add_at] at hx625_0 | simp only [Addr.add, Nat.zero_add] at hx625_0 | skip)
                               have HR625_0 := am_ hi625_0; have HC625_0 := am_ hl625_0; clear hi625_0 hl625_0; replace p625 := eq_true p625; replace q625 := eq_true q625; have p626 : 0 ≤ (x53_2 : Int) := od_ (by first | (with_reducible assumption) | assumption); have q626 : x53_2 < ((rd_L9 x7_3 x8_1).length : Int) := od_ (by first | (with_reducible assumption) | assumption); obtain ⟨ad626, e626, hx626_0, hx626_1⟩ := at_T108 (by repeat (first | (with_reducible exact HR625_0.out) | (with_reducible refine Kd.C_alloc ?_ _) | (with_reducible refine Kd.C_drewN ?_ _) | (with_reducible refine Kd.C_drew ?_) | exact HR625_0.out)) x53_2 p626 q626
                               cases e626
                               replace p626 := eq_true p626; replace q626 := eq_true q626; have p88 : 0 ≤ (x53_2 : Int) := od_ (by first | (with_reducible assumption) | assumption); have q88 : (x53_2 : Int) < (((rd_L9 x7_3 x8_1).length : Int) : Int) := od_ (by first | (with_reducible assumption) | assumption); obtain ⟨go88, co88, eo88, gb88, gl88, cl88, HG88⟩ := Kd.R_form HL625_0.out (by omega)
                               (first | cases eo88 | (injection eo88 with ea_ en_ ec_; (first | subst ea_ | (injection ea_ with ea_; subst ea_)); subst ec_; clear en_))
                               have GB88 := am_ gb88; have GG88 := am_ HG88; clear gb88 gl88 HG88
                               (first | simp only [add_plain] at hx626_0 | skip)
                               (first | simp only [add_plain] at hx626_1 | skip)
                               obtain ⟨ce88, hcl88, hM88, hcc88, hfr88⟩ := Kd.R_elem HL625_0.out z108 (x53_2 : Int) p88 q88; obtain rfl := k108_openM hM88; have hx88_0 : World.cell? _ ⟨go88, (x53_2 : Int).toNat * 2, none⟩ = some (.int .i64 ((rd_T108 (rd_L9 x7_3 x8_1) x53_2).f0)) := hcc88 0 _ rfl; have hx88_1 : World.cell? _ ⟨go88, (x53_2 : Int).toNat * 2 + 1, none⟩ = some (.int .i64 ((rd_T108 (rd_L9 x7_3 x8_1) x53_2).f1)) := hcc88 1 _ rfl; have hf88_0 : World.frozen? _ ⟨go88, (x53_2 : Int).toNat * 2, none⟩ = false := hfr88 0; have hf88_1 : World.frozen? _ ⟨go88, (x53_2 : Int).toNat * 2 + 1, none⟩ = false := hfr88 1; clear hcl88 hcc88 hfr88; (try clear hM88); replace p88 := eq_true p88; replace q88 := eq_true q88; have hq99 : (x8_1 : Int) < (x7_3.length : Int) := (by have h_ : (x8_1 : Int) < ((x7_3.length : Int) : Int) := od_ (by first | (with_reducible assumption) | assumption); first | exact h_ | (have e_ := (Kd.S_reads' HO_7.out).1; omega) | simpa only [List.length_set, List.length_set] using h_)
                               obtain ⟨oki99, ce99, hcl99, hM99, hcc99, hok99, hbk99⟩ := Kd.S_borrow HO_7.out [] (x8_1 : Int) (od_ (by first | (with_reducible assumption) | assumption)) (by first | exact hq99 | (have e_ := (Kd.S_reads' HO_7.out).1; omega)); obtain ⟨ve99_0, rfl, ge99_0⟩ := hM99; have hv99 := hcc99 0 _ rfl; rw [Nat.add_zero, show ((Kd.slice 108 k108)).sz = 1 from rfl, Nat.mul_one] at hv99; replace hv99 := Option.some.inj (hv99.symm.trans HX625_0.out); subst hv99; clear hcc99 hcl99; replace ge99_0 := (show Kd.R k108 108 _ _ _ _ (rd_L9 x7_3 x8_1) from ge99_0)
                               obtain ⟨cf99, hcl99, hN99, hcc99, hfr99⟩ := Kd.R_elem ge99_0 z108 (x53_2 : Int) (od_ (by first | (with_reducible assumption) | assumption)) (by have h_ : (x53_2 : Int) < (((rd_L9 x7_3 x8_1).length : Int) : Int) := od_ (by first | (with_reducible assumption) | assumption); first | exact h_ | (have e_ := (Kd.R_reads' HR625_0.out).1; omega) | simpa using h_); obtain rfl := k108_openM hN99; have HP99 := Kd.R_seg ge99_0 (x53_2 : Int) (od_ (by first | (with_reducible assumption) | assumption)) (by have h_ : (x53_2 : Int) < (((rd_L9 x7_3 x8_1).length : Int) : Int) := od_ (by first | (with_reducible assumption) | assumption); first | exact h_ | (have e_ := (Kd.R_reads' HR625_0.out).1; omega) | simpa using h_) (seg := [.int .i64 (wrap64 (((rd_T108 (rd_L9 x7_3 x8_1) x53_2).f0) + ((rd_T108 (rd_L9 x7_3 (ji37)) (ji40)).f0)))]) (j := 0) hcl99 hcc99 (show 1 ≤ 2 from by decide) (x' := (⟨wrap64 (((rd_T108 (rd_L9 x7_3 x8_1) x53_2).f0) + ((rd_T108 (rd_L9 x7_3 (ji37)) (ji40)).f0)), (rd_T108 (rd_L9 x7_3 x8_1) x53_2).f1⟩ : S108)) (k108_mkM _ _ _ (⟨wrap64 (((rd_T108 (rd_L9 x7_3 x8_1) x53_2).f0) + ((rd_T108 (rd_L9 x7_3 (ji37)) (ji40)).f0)), (rd_T108 (rd_L9 x7_3 x8_1) x53_2).f1⟩ : S108)) (fun _ hk => hk); clear hcl99 hcc99 hfr99; (try clear hN99); rw [← Ny627.out] at HP99; have HS99 := hbk99 HP99.2 (fun k_ e_ => by injection e_ with e_; subst e_; exact ge99_0.1 _ rfl) (x' := y627) (Kd.M_row HP99.1); rw [← Ny629.out] at HS99; have HQ99 := am_ HS99; clear HP99 HS99 hbk99 hok99; refine start_ (n := 14) (S := fun w' => w'.cell? ⟨gb603, 0, none⟩ = some (.int .i64 ((rd_T108 (rd_L9 x7_3 (ji37)) (ji40)).f0)) ∧ w'.cell? ⟨gb603, 1, none⟩ = some (.int .i64 ((rd_T108 (rd_L9 x7_3 (ji37)) (ji40)).f1)) ∧ w'.cell? ⟨go15, (x8_1).toNat, none⟩ = some (.slice (some ⟨go88, 0, none⟩) (rd_L9 x7_3 x8_1).length c625_0) ∧ w'.cell? ⟨go88, ((x53_2).toNat * 2), none⟩ = some (.int .i64 ((rd_T108 (rd_L9 x7_3 x8_1) x53_2).f0)) ∧ w'.cell? ⟨go88, ((x53_2).toNat * 2) + 1, none⟩ = some (.int .i64 ((rd_T108 (rd_L9 x7_3 x8_1) x53_2).f1))) (ds := [13]) (mB_ 14 0) (by kernel_rfl) rfl rfl ⟨(kC_ BK603.out 0).trans rfl, (kC_ BK603.out 1).trans rfl, hx625_0, hx626_0, hx626_1⟩ (fun hHeld => ?_); refine with_tabW impl_fillings.tab20 impl_fillings.bits20 (fun HT_ HW_ => ?_); generalize w97.drew = w98 at HO_7 HL601_0 HL604_0 BK603 BK606 HB GG88 HL625_0 HQ99 HR625_0 HX625_0 hf88_0 hf88_1 hx625_0 hx626_0 hx626_1 hx88_0 hx88_1 hHeld ⊢; refine pure_ (i := 0) (N := some 118) (v := ?_) (a' := ?_) (mB_ 14 1) rfl rfl (any_of HT_.out (by kernel_rfl)) (fun _ _ _ h => h) (Or.inl ⟨by rfl, ?_⟩) ?_ ?_; rotate_left
                               ·
                                intro w'
                                go_simp
                                with_reducible rfl
                               rotate_left
                               ·
                                simp only [Act.put, z1_, z2_, z3_, i64_w, i32_w]
                                rfl
                               refine pure_ (i := 1) (N := some 119) (v := ?_) (a' := ?_) (mB_ 14 3) rfl rfl (any_of HT_.out (by kernel_rfl)) (fun _ _ _ h => h) (Or.inl ⟨by rfl, ?_⟩) ?_ ?_; rotate_left
                               ·
                                intro w'
                                go_simp
                                with_reducible rfl
                               rotate_left
                               ·
                                simp only [Act.put, z1_, z2_, z3_, i64_w, i32_w]
                                rfl
                               refine pure_ (i := 2) (N := some 120) (v := ?_) (a' := ?_) (mB_ 14 7) rfl rfl (any_of HT_.out (by kernel_rfl)) (fun _ _ _ h => h) (Or.inl ⟨by rfl, ?_⟩) ?_ ?_; rotate_left
                               ·
                                intro w'
                                go_simp
                                with_reducible rfl
                               rotate_left
                               ·
                                simp only [Act.put, z1_, z2_, z3_, i64_w, i32_w]
                                rfl
                               refine pure_ (i := 4) (N := some 122) (v := ?_) (a' := ?_) (mB_ 14 23) rfl rfl (any_of HT_.out (by kernel_rfl)) (fun _ _ _ h => h) (Or.inl ⟨by rfl, ?_⟩) ?_ ?_; rotate_left
                               ·
                                intro w'
                                go_simp
                                with_reducible rfl
                               rotate_left
                               ·
                                simp only [Act.put, z1_, z2_, z3_, i64_w, i32_w]
                                rfl
                               refine pure_ (i := 8) (N := some 126) (v := ?_) (a' := ?_) (mB_ 14 279) rfl rfl (any_of HT_.out (by kernel_rfl)) (fun _ _ _ h => h) (Or.inl ⟨by rfl, ?_⟩) ?_ ?_; rotate_left
                               ·
                                intro w'
                                go_simp
                                with_reducible rfl
                               rotate_left
                               ·
                                simp only [Act.put, z1_, z2_, z3_, i64_w, i32_w]
                                rfl
                               refine take_ (i := 3) (N := some 121) (v := ?_) (a' := ?_) (mB_ 14 287) rfl rfl (take_ofW HT_.out HW_.out (by kernel_rfl)) (fun _ _ _ h => h) (Or.inl ⟨by rfl, ?_⟩) hHeld ?_ ?_; rotate_left
                               ·
                                rintro w' ⟨s0, s1, s2, s3, s4⟩
                                go_simp
                                with_reducible rfl
                               rotate_left
                               ·
                                simp only [Act.put, z1_, z2_, z3_, i64_w, i32_w]
                                rfl
                               refine pure_ (i := 5) (N := some 123) (v := ?_) (a' := ?_) (mB_ 14 319) rfl rfl (any_of HT_.out (by kernel_rfl)) (fun _ _ _ h => h) (Or.inl ⟨by rfl, ?_⟩) ?_ ?_; rotate_left
                               ·
                                intro w'
                                go_simp
                                with_reducible rfl
                               rotate_left
                               ·
                                simp only [Act.put, z1_, z2_, z3_, i64_w, i32_w]
                                rfl
                               refine pure_ (i := 6) (N := some 124) (v := ?_) (a' := ?_) (mB_ 14 383) rfl rfl (any_of HT_.out (by kernel_rfl)) (fun _ _ _ h => h) (Or.inl ⟨by rfl, ?_⟩) ?_ ?_; rotate_left
                               ·
                                intro w'
                                go_simp
                                with_reducible rfl
                               rotate_left
                               ·
                                simp only [Act.put, z1_, z2_, z3_, i64_w, i32_w]
                                rfl
                               refine take_ (i := 7) (N := some 125) (v := ?_) (a' := ?_) (mB_ 14 511) rfl rfl (take_ofW HT_.out HW_.out (by kernel_rfl)) (fun _ _ _ h => h) (Or.inl ⟨by rfl, ?_⟩) hHeld ?_ ?_; rotate_left
                               ·
                                rintro w' ⟨s0, s1, s2, s3, s4⟩
                                go_simp
                                with_reducible rfl
                               rotate_left
                               ·
                                simp only [Act.put, z1_, z2_, z3_, i64_w, i32_w]
                                rfl
                               refine take_ (i := 9) (N := some 127) (v := ?_) (a' := ?_) (mB_ 14 1023) rfl rfl (take_ofW HT_.out HW_.out (by kernel_rfl)) (fun _ _ _ h => h) (Or.inl ⟨by rfl, ?_⟩) hHeld ?_ ?_; rotate_left
                               ·
                                rintro w' ⟨s0, s1, s2, s3, s4⟩
                                go_simp
                                with_reducible rfl
                               rotate_left
                               ·
                                simp only [Act.put, z1_, z2_, z3_, i64_w, i32_w]
                                rfl
                               refine pure_ (i := 10) (N := some 128) (v := ?_) (a' := ?_) (mB_ 14 2047) rfl rfl (any_of HT_.out (by kernel_rfl)) (fun _ _ _ h => h) (Or.inl ⟨by rfl, ?_⟩) ?_ ?_; rotate_left
                               ·
                                intro w'
                                go_simp
                                with_reducible rfl
                               rotate_left
                               ·
                                simp only [Act.put, z1_, z2_, z3_, i64_w, i32_w]
                                rfl
                               refine pure_ (i := 11) (N := some 129) (v := ?_) (a' := ?_) (mB_ 14 4095) rfl rfl (any_of HT_.out (by kernel_rfl)) (fun _ _ _ h => h) (Or.inl ⟨by rfl, ?_⟩) ?_ ?_; rotate_left
                               ·
                                intro w'
                                go_simp
                                with_reducible rfl
                               rotate_left
                               ·
                                simp only [Act.put, z1_, z2_, z3_, i64_w, i32_w]
                                rfl
                               refine pure_ (i := 12) (N := some 130) (v := ?_) (a' := ?_) (mB_ 14 8191) rfl rfl (any_of HT_.out (by kernel_rfl)) (fun _ _ _ h => h) (Or.inl ⟨by rfl, ?_⟩) ?_ ?_; rotate_left
                               ·
                                intro w'
                                go_simp
                                with_reducible rfl
                               rotate_left
                               ·
                                simp only [Act.put, z1_, z2_, z3_, i64_w, i32_w]
                                rfl
                               refine last_ (i := 13) (N := none) (mB_ 14 16383) rfl rfl (one_of HT_.out (by kernel_rfl)) (by decide) (fun K hK => ?_); refine skip_ (w1 := ?_) (by rfl) rfl ?_ ?_; rotate_left
                               ·
                                go_simp
                                rfl
                               refine hK.out _ _ ?_; clear hK K; refine done_ (done_of HT_.out (by kernel_rfl)) ?_
                               try go_wp2
                               (try simp only [← hl7_3])
                               go_roundg k3
                               case measure => have := HK1.out; have := HK2.out; have := HK3.out; omega
                               case rel => exact ⟨(y629), (wrap64 (x11_3 + 1)), (by first | rfl | (simp; done) | (simp [*]; done)), H', ⟨by have := HK1.out; have := HK2.out; have := HK3.out; omega⟩, ⟨by (try simp only [hl7_2]); (try simp only [hl7_3]); (with_reducible repeat (first | apply Kd.S_alloc | apply Kd.S_drewN | apply Kd.S_drew)); exact Kd.S_mono HQ99.out (fun _ hk => trivial)⟩, ⟨by repeat (first | (with_reducible first | exact HB.out | apply bA_ | apply bN_ | apply bD_ | refine bS_ ?_ GB88.out | refine bS_ ?_ GE603.out | refine bS_ ?_ GE606.out) | exact HB.out)⟩⟩
                            ·
                             rw [if_neg c48] at H; exact absurd H (by simp)
                           ·
                            rw [if_neg c47] at H; exact absurd H (by simp)
                          ·
                           rw [if_neg c46] at H; exact absurd H (by simp)
                        ·
                         rw [if_neg c42] at H; exact absurd H (by simp)
                       ·
                        rw [if_neg c41] at H; exact absurd H (by simp)
                      ·
                       rw [if_neg c39] at H; exact absurd H (by simp)
                     ·
                      rw [if_neg c38] at H; exact absurd H (by simp)
                    ·
                     rw [if_neg c36] at H; have c36b0 : decide ((wrap64 (x11_3 * (wrap64 ((wrap64 ((rd_T68 l0 x8_1).f0)) + a2)))) ≤ x53_2) = false := decide_eq_false c36; clear c36; have H' := am_ H; clear H; have p600 : 0 ≤ (x8_1 : Int) := od_ (by first | (with_reducible assumption) | assumption); have q600 : x8_1 < (l0.length : Int) := od_ (by first | (with_reducible assumption) | assumption); obtain ⟨ad600, e600, hx600_0, hx600_1⟩ := at_T68 HR0.out x8_1 p600 q600; obtain rfl : ad598 = ad600 := (by injection e600)
                     replace hx600_0 := (HB.out.cell (bl_ w _ hx600_0)).trans hx600_0; replace hx600_1 := (HB.out.cell (bl_ w _ hx600_1)).trans hx600_1; replace p600 := eq_true p600; replace q600 := eq_true q600
                     go_wp2
                     (try simp only [← hl7_2, ← hl7_3])
                     go_roundg k3
                     case measure => have := HK1.out; have := HK2.out; have := HK3.out; omega
                     case rel => exact ⟨(x7_3), (wrap64 (x53_2 + 1)), (by first | rfl | (simp; done) | (simp [*]; done)), H', ⟨by have := HK1.out; have := HK2.out; have := HK3.out; omega⟩, ⟨by (try simp only [hl7_2]); (try simp only [hl7_3]); (with_reducible repeat (first | apply Kd.S_alloc | apply Kd.S_drewN | apply Kd.S_drew)); exact HO_7.out⟩, ⟨by repeat (first | (with_reducible first | exact HB.out | apply bA_ | apply bN_ | apply bD_) | exact HB.out)⟩⟩
                   ·
                    rw [if_neg c35] at H; have c35b0 : decide (x11_3 ≤ (wrap64 ((rd_T68 l0 x8_1).f1))) = false := decide_eq_false c35; clear c35; have H' := am_ H; clear H; have p600 : 0 ≤ (x8_1 : Int) := od_ (by first | (with_reducible assumption) | assumption); have q600 : x8_1 < (l0.length : Int) := od_ (by first | (with_reducible assumption) | assumption); obtain ⟨ad600, e600, hx600_0, hx600_1⟩ := at_T68 HR0.out x8_1 p600 q600; obtain rfl : ad598 = ad600 := (by injection e600)
                    replace hx600_0 := (HB.out.cell (bl_ w _ hx600_0)).trans hx600_0; replace hx600_1 := (HB.out.cell (bl_ w _ hx600_1)).trans hx600_1; replace p600 := eq_true p600; replace q600 := eq_true q600
                    go_wp2
                    (try simp only [← hl7_2, ← hl7_3])
                    go_roundg k3
                    case measure => have := HK1.out; have := HK2.out; have := HK3.out; omega
                    case rel => exact ⟨(x7_3), (wrap64 (x53_2 + 1)), (by first | rfl | (simp; done) | (simp [*]; done)), H', ⟨by have := HK1.out; have := HK2.out; have := HK3.out; omega⟩, ⟨by (try simp only [hl7_2]); (try simp only [hl7_3]); (with_reducible repeat (first | apply Kd.S_alloc | apply Kd.S_drewN | apply Kd.S_drew)); exact HO_7.out⟩, ⟨by repeat (first | (with_reducible first | exact HB.out | apply bA_ | apply bN_ | apply bD_) | exact HB.out)⟩⟩
                  ·
                   rw [if_neg c34] at H; exact absurd H (by simp)
                 ·
                  rw [if_neg c33] at H; exact absurd H (by simp)
              ·
               rw [if_neg c32] at H; have c32b0 : decide (x53_2 < ((rd_L9 y593 x8_1).length : Int)) = false := decide_eq_false c32; clear c32; have H' := am_ H; clear H
               go_wp2
               (try simp only [← hl7_2])
               go_roundg k2
               case measure => have := HK1.out; have := HK2.out; omega
               case rel => exact ⟨(x7_2), (wrap64 (x8_1 - 1)), (by first | rfl | (simp; done) | (simp [*]; done)), H', ⟨by have := HK1.out; have := HK2.out; omega⟩, ⟨by (try simp only [hl7_2]); (with_reducible repeat (first | apply Kd.S_alloc | apply Kd.S_drewN | apply Kd.S_drew)); exact HO_7.out⟩, ⟨by repeat (first | (with_reducible first | exact HB.out | apply bA_ | apply bN_ | apply bD_) | exact HB.out)⟩⟩
           ·
            rw [if_neg c26] at H; exact absurd H (by simp)
         ·
          rw [if_neg c14] at H; exact absurd H (by simp)
        ·
         rw [if_neg c13] at H; exact absurd H (by simp)
       ·
        rw [if_neg c12] at H; exact absurd H (by simp)
      ·
       rw [if_neg c11] at H; exact absurd H (by simp)
     ·
      rw [if_neg c9] at H; have c9b0 : decide (0 ≤ x8_1) = false := decide_eq_false c9; clear c9; obtain rfl := Option.some.inj H
      go_wp2
      go_ret
      exact ⟨_, by first | rfl | (simp [errW_none, errW_some] <;> rfl) | (simp only [← hji4]; first | rfl | (simp [errW_none, errW_some] <;> rfl)) | (simp [*, errW_none, errW_some] <;> rfl), by (with_reducible repeat (first | apply Kd.S_alloc | apply Kd.S_drewN | apply Kd.S_drew)); exact HO_7.out, by repeat (first | (with_reducible first | exact HB.out | apply bA_ | apply bN_ | apply bD_) | exact HB.out)⟩
  ·
   rw [if_neg c6] at H; exact absurd H (by simp)
 ·
  rw [if_neg c5] at H; exact absurd H (by simp)
end Go.Proofs.Ytpbobnpmiafbbaa.Q
