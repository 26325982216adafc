-- By a program of this session's: of the print's words what this claim needs. Lean checks it.
import Derived.Test.YtpbobnpmiafbbaaXQ0
namespace Go.Proofs.Ytpbobnpmiafbbaa.Q
open Go.RowKit Go.Proofs.YtpbobnpmiafbbaaW.PrintWords Go.Proofs.YtpbobnpmiafbbaaW.PrintLast Go.Proofs.YtpbobnpmiafbbaaW.PrintMore
attribute [local go_sem] max2_int min2_int max_two min_two max_three min_three max_four min_four
set_option linter.unusedVariables false
set_option linter.unusedSimpArgs false
mutual
def spec_l03Table.l0 : Nat → List (S68) → Int → Int → List Int → Int → Option ((List (List Int)))
 | 0, _, _, _, _, _ => none
 | k + 1, x0, x1, x2, x7, x8 => if x8 ≤ x2 then (if 0 ≤ x8 then (if x8 < (x7.length : Int) then (spec_l03Table.l0 k x0 x1 x2 (x7.set (x8 : Int).toNat (-1)) (wrap64 (x8 + 1))) else (none)) else (none)) else (spec_l03Table.l1 k x0 x1 x2 (([x7] : List (List Int))) (wrap64 ((x0.length : Int) - 1)))
def spec_l03Table.l1 : Nat → List (S68) → Int → Int → List (List Int) → Int → Option ((List (List Int)))
 | 0, _, _, _, _, _ => none
 | k + 1, x0, x1, x2, x9, x10 => if x10 ≥ 0 then (if 0 ≤ x10 then (if x10 < (x0.length : Int) then (if 0 ≤ (wrap64 (x2 + 1)) then (if (wrap64 (x2 + 1) : Int).toNat ≤ 35184372088832 then (spec_l03Table.l2 k x0 x1 x2 x9 x10 (wrap64 ((wrap64 ((rd_T68 x0 x10).f0)) + x1)) (List.replicate (wrap64 (x2 + 1) : Int).toNat 0) 0) else (none)) else (none)) else (none)) else (none)) else (some x9)
def spec_l03Table.l2 : Nat → List (S68) → Int → Int → List (List Int) → Int → Int → List Int → Int → Option ((List (List Int)))
 | 0, _, _, _, _, _, _, _, _ => none
 | k + 1, x0, x1, x2, x9, x10, x11, x12, x13 => if x13 ≤ x2 then (if 0 ≤ x13 then (if x13 < (x12.length : Int) then (spec_l03Table.l3 k x0 x1 x2 x9 x10 x11 (x12.set (x13 : Int).toNat (-1)) x13 0) else (none)) else (none)) else ((some (([x12] : List (List Int)) : List (List Int))).bind fun y521 => (if y521.length + x9.length < 5864062014805 then (spec_l03Table.l1 k x0 x1 x2 (y521 ++ x9) (wrap64 (x10 - 1))) else (none)))
def spec_l03Table.l3 : Nat → List (S68) → Int → Int → List (List Int) → Int → Int → List Int → Int → Int → Option ((List (List Int)))
 | 0, _, _, _, _, _, _, _, _, _ => none
 | k + 1, x0, x1, x2, x9, x10, x11, x12, x13, x14 => if 0 ≤ x10 then (if x10 < (x0.length : Int) then (if x14 ≤ (wrap64 ((rd_T68 x0 x10).f1)) then (spec_l03Table.j4 k x0 x1 x2 x9 x10 x11 x12 x13 x14 (decide ((wrap64 (x14 * x11)) ≤ x13))) else (spec_l03Table.j4 k x0 x1 x2 x9 x10 x11 x12 x13 x14 false)) else (none)) else (none)
def spec_l03Table.j4 : Nat → List (S68) → Int → Int → List (List Int) → Int → Int → List Int → Int → Int → Bool → Option ((List (List Int)))
 | 0, _, _, _, _, _, _, _, _, _, _ => none
 | k + 1, x0, x1, x2, x9, x10, x11, x12, x13, x14, x69 => if x69 = true then (if 0 < (x9.length : Int) then (if 0 ≤ (wrap64 (x13 - (wrap64 (x14 * x11)))) then (if (wrap64 (x13 - (wrap64 (x14 * x11)))) < ((rd_L4 x9 0).length : Int) then (if (rd (rd_L4 x9 0) (wrap64 (x13 - (wrap64 (x14 * x11))))) ≥ 0 then (if 0 ≤ x13 then (if x13 < (x12.length : Int) then (if (rd x12 x13) < 0 then (spec_l03Table.l3 k x0 x1 x2 x9 x10 x11 (x12.set (x13 : Int).toNat (wrap64 ((rd (rd_L4 x9 0) (wrap64 (x13 - (wrap64 (x14 * x11))))) + x14))) x13 (wrap64 (x14 + 1))) else (if (wrap64 ((rd (rd_L4 x9 0) (wrap64 (x13 - (wrap64 (x14 * x11))))) + x14)) < (rd x12 x13) then (spec_l03Table.l3 k x0 x1 x2 x9 x10 x11 (x12.set (x13 : Int).toNat (wrap64 ((rd (rd_L4 x9 0) (wrap64 (x13 - (wrap64 (x14 * x11))))) + x14))) x13 (wrap64 (x14 + 1))) else (spec_l03Table.l3 k x0 x1 x2 x9 x10 x11 x12 x13 (wrap64 (x14 + 1))))) else (none)) else (none)) else (spec_l03Table.l3 k x0 x1 x2 x9 x10 x11 x12 x13 (wrap64 (x14 + 1)))) else (none)) else (none)) else (none)) else (spec_l03Table.l2 k x0 x1 x2 x9 x10 x11 x12 (wrap64 (x13 + 1)))
end
def spec_l03Table.f (k : Nat) (l0 : List (S68)) (a1 : Int) (a2 : Int) : Option ((List (List Int))) := if 0 ≤ (wrap64 (a2 + 1)) then (if (wrap64 (a2 + 1) : Int).toNat ≤ 35184372088832 then (spec_l03Table.l0 k l0 a1 a2 (List.replicate (wrap64 (a2 + 1) : Int).toNat 0) 1) else (none)) else (none)
theorem spec_l03Table.mono_l : ∀ k, (∀ y0 y1 y2 y3 y4, LeO (spec_l03Table.l0 k y0 y1 y2 y3 y4) (spec_l03Table.l0 (k + 1) y0 y1 y2 y3 y4)) ∧ (∀ y0 y1 y2 y3 y4, LeO (spec_l03Table.l1 k y0 y1 y2 y3 y4) (spec_l03Table.l1 (k + 1) y0 y1 y2 y3 y4)) ∧ (∀ y0 y1 y2 y3 y4 y5 y6 y7, LeO (spec_l03Table.l2 k y0 y1 y2 y3 y4 y5 y6 y7) (spec_l03Table.l2 (k + 1) y0 y1 y2 y3 y4 y5 y6 y7)) ∧ (∀ y0 y1 y2 y3 y4 y5 y6 y7 y8, LeO (spec_l03Table.l3 k y0 y1 y2 y3 y4 y5 y6 y7 y8) (spec_l03Table.l3 (k + 1) y0 y1 y2 y3 y4 y5 y6 y7 y8)) ∧ (∀ y0 y1 y2 y3 y4 y5 y6 y7 y8 y9, LeO (spec_l03Table.j4 k y0 y1 y2 y3 y4 y5 y6 y7 y8 y9) (spec_l03Table.j4 (k + 1) y0 y1 y2 y3 y4 y5 y6 y7 y8 y9))
 | 0 => ⟨fun _ _ _ _ _ r h => by simp [spec_l03Table.l0] at h, fun _ _ _ _ _ r h => by simp [spec_l03Table.l1] at h, fun _ _ _ _ _ _ _ _ r h => by simp [spec_l03Table.l2] at h, fun _ _ _ _ _ _ _ _ _ r h => by simp [spec_l03Table.l3] at h, fun _ _ _ _ _ _ _ _ _ _ r h => by simp [spec_l03Table.j4] at h⟩
 | k + 1 => by
  obtain ⟨ih0, ih1, ih2, ih3, ih4⟩ := spec_l03Table.mono_l k; refine ⟨?_, ?_, ?_, ?_, ?_⟩
  ·
   intro y0 y1 y2 y3 y4
   unfold spec_l03Table.l0
   repeat' first
   | (with_reducible exact ih0 _ _ _ _ _)
   | (with_reducible exact ih1 _ _ _ _ _)
   | (with_reducible exact ih2 _ _ _ _ _ _ _ _)
   | (with_reducible exact ih3 _ _ _ _ _ _ _ _ _)
   | (with_reducible exact ih4 _ _ _ _ _ _ _ _ _ _)
   | (with_reducible exact LeO.refl _)
   | (with_reducible exact LeO.none _)
   | (with_reducible refine LeO.ite ?_ ?_)
   | (with_reducible refine LeO.bind ?_ (fun _ => ?_))
   | exact ih0 _ _ _ _ _
   | exact ih1 _ _ _ _ _
   | exact ih2 _ _ _ _ _ _ _ _
   | exact ih3 _ _ _ _ _ _ _ _ _
   | exact ih4 _ _ _ _ _ _ _ _ _ _
   | exact LeO.none _
   | refine LeO.ite ?_ ?_
   | refine LeO.bind ?_ (fun _ => ?_)
  ·
   intro y0 y1 y2 y3 y4
   unfold spec_l03Table.l1
   repeat' first
   | (with_reducible exact ih0 _ _ _ _ _)
   | (with_reducible exact ih1 _ _ _ _ _)
   | (with_reducible exact ih2 _ _ _ _ _ _ _ _)
   | (with_reducible exact ih3 _ _ _ _ _ _ _ _ _)
   | (with_reducible exact ih4 _ _ _ _ _ _ _ _ _ _)
   | (with_reducible exact LeO.refl _)
   | (with_reducible exact LeO.none _)
   | (with_reducible refine LeO.ite ?_ ?_)
   | (with_reducible refine LeO.bind ?_ (fun _ => ?_))
   | exact ih0 _ _ _ _ _
   | exact ih1 _ _ _ _ _
   | exact ih2 _ _ _ _ _ _ _ _
   | exact ih3 _ _ _ _ _ _ _ _ _
   | exact ih4 _ _ _ _ _ _ _ _ _ _
   | exact LeO.none _
   | refine LeO.ite ?_ ?_
   | refine LeO.bind ?_ (fun _ => ?_)
  ·
   intro y0 y1 y2 y3 y4 y5 y6 y7
   unfold spec_l03Table.l2
   repeat' first
   | (with_reducible exact ih0 _ _ _ _ _)
   | (with_reducible exact ih1 _ _ _ _ _)
   | (with_reducible exact ih2 _ _ _ _ _ _ _ _)
   | (with_reducible exact ih3 _ _ _ _ _ _ _ _ _)
   | (with_reducible exact ih4 _ _ _ _ _ _ _ _ _ _)
   | (with_reducible exact LeO.refl _)
   | (with_reducible exact LeO.none _)
   | (with_reducible refine LeO.ite ?_ ?_)
   | (with_reducible refine LeO.bind ?_ (fun _ => ?_))
   | exact ih0 _ _ _ _ _
   | exact ih1 _ _ _ _ _
   | exact ih2 _ _ _ _ _ _ _ _
   | exact ih3 _ _ _ _ _ _ _ _ _
   | exact ih4 _ _ _ _ _ _ _ _ _ _
   | exact LeO.none _
   | refine LeO.ite ?_ ?_
   | refine LeO.bind ?_ (fun _ => ?_)
  ·
   intro y0 y1 y2 y3 y4 y5 y6 y7 y8
   unfold spec_l03Table.l3
   repeat' first
   | (with_reducible exact ih0 _ _ _ _ _)
   | (with_reducible exact ih1 _ _ _ _ _)
   | (with_reducible exact ih2 _ _ _ _ _ _ _ _)
   | (with_reducible exact ih3 _ _ _ _ _ _ _ _ _)
   | (with_reducible exact ih4 _ _ _ _ _ _ _ _ _ _)
   | (with_reducible exact LeO.refl _)
   | (with_reducible exact LeO.none _)
   | (with_reducible refine LeO.ite ?_ ?_)
   | (with_reducible refine LeO.bind ?_ (fun _ => ?_))
   | exact ih0 _ _ _ _ _
   | exact ih1 _ _ _ _ _
   | exact ih2 _ _ _ _ _ _ _ _
   | exact ih3 _ _ _ _ _ _ _ _ _
   | exact ih4 _ _ _ _ _ _ _ _ _ _
   | exact LeO.none _
   | refine LeO.ite ?_ ?_
   | refine LeO.bind ?_ (fun _ => ?_)
  ·
   intro y0 y1 y2 y3 y4 y5 y6 y7 y8 y9
   unfold spec_l03Table.j4
   repeat' first
   | (with_reducible exact ih0 _ _ _ _ _)
   | (with_reducible exact ih1 _ _ _ _ _)
   | (with_reducible exact ih2 _ _ _ _ _ _ _ _)
   | (with_reducible exact ih3 _ _ _ _ _ _ _ _ _)
   | (with_reducible exact ih4 _ _ _ _ _ _ _ _ _ _)
   | (with_reducible exact LeO.refl _)
   | (with_reducible exact LeO.none _)
   | (with_reducible refine LeO.ite ?_ ?_)
   | (with_reducible refine LeO.bind ?_ (fun _ => ?_))
   | exact ih0 _ _ _ _ _
   | exact ih1 _ _ _ _ _
   | exact ih2 _ _ _ _ _ _ _ _
   | exact ih3 _ _ _ _ _ _ _ _ _
   | exact ih4 _ _ _ _ _ _ _ _ _ _
   | exact LeO.none _
   | refine LeO.ite ?_ ?_
   | refine LeO.bind ?_ (fun _ => ?_)
theorem spec_l03Table.mono : ∀ a0 a1 a2 k, LeO (spec_l03Table.f k a0 a1 a2) (spec_l03Table.f (k + 1) a0 a1 a2) := by
 intro a0 a1 a2 k; obtain ⟨ih0, ih1, ih2, ih3, ih4⟩ := spec_l03Table.mono_l k
 unfold spec_l03Table.f
 repeat' first
   | (with_reducible exact ih0 _ _ _ _ _)
   | (with_reducible exact ih1 _ _ _ _ _)
   | (with_reducible exact ih2 _ _ _ _ _ _ _ _)
   | (with_reducible exact ih3 _ _ _ _ _ _ _ _ _)
   | (with_reducible exact ih4 _ _ _ _ _ _ _ _ _ _)
   | (with_reducible exact LeO.refl _)
   | (with_reducible exact LeO.none _)
   | (with_reducible refine LeO.ite ?_ ?_)
   | (with_reducible refine LeO.bind ?_ (fun _ => ?_))
   | exact ih0 _ _ _ _ _
   | exact ih1 _ _ _ _ _
   | exact ih2 _ _ _ _ _ _ _ _
   | exact ih3 _ _ _ _ _ _ _ _ _
   | exact ih4 _ _ _ _ _ _ _ _ _ _
   | exact LeO.none _
   | refine LeO.ite ?_ ?_
   | refine LeO.bind ?_ (fun _ => ?_)
set_option maxHeartbeats 8000000 in
set_option maxRecDepth 100000 in
theorem spec_l03Table.calls (k : Nat) (A0 : Option Addr) (c0 : Nat) (l0 : List (S68)) (a1 : Int) (a2 : Int) (r : List (List Int)) (w : World) (hr0 : Kd.C k68 w A0 l0.length l0) (hc0 : l0.length ≤ c0) (h : spec_l03Table.f k l0 a1 a2 = some r) :
  Calls Try.prog 93 #[.slice A0 l0.length c0, .int .i64 a1, .int .i64 a2] w fun e w' => ∃ v0_ : Value, e = .returned (v0_) ∧ Kd.N (Kd.slice 2 (Kd.int .i64)) 22 w' w.heap.size (fun k_ => (w.heap.size ≤ k_)) v0_ r ∧ Below w.heap.size w w' := by
 have HR0 := am_ hr0; have HC0 := am_ hc0; clear hr0 hc0; have HB := am_ (Below.refl w.heap.size w); have H : (if 0 ≤ (wrap64 (a2 + 1)) then (if (wrap64 (a2 + 1) : Int).toNat ≤ 35184372088832 then (spec_l03Table.l0 k l0 a1 a2 (List.replicate (wrap64 (a2 + 1) : Int).toNat 0) 1) else (none)) else (none)) = some r := h; clear h; obtain ⟨ji4, hji4⟩ : ∃ j_ : Int, (wrap64 (a2 + 1)) = j_ := ⟨_, rfl⟩
 replace H : (if 0 ≤ (ji4) then (if (ji4 : Int).toNat ≤ 35184372088832 then (spec_l03Table.l0 k l0 a1 a2 (List.replicate (ji4 : Int).toNat 0) 1) else (none)) else (none)) = some r := by first | (rw [hji4] at H; exact H) | (simp only [hji4] at H ⊢; exact H)
 have hji4w : (IntKind.i64.wrap (a2 + 1)) = ji4 := (i64_w _).trans hji4
 by_cases c5 : 0 ≤ (ji4)
 ·
  rw [if_pos c5] at H; have c5b0 := eq_true c5; have c5b1 : decide (0 ≤ (ji4)) = true := decide_eq_true c5; clear c5
  by_cases c6 : (ji4 : Int).toNat ≤ 35184372088832
  ·
   rw [if_pos c6] at H; have c6b0 := eq_true c6; have c6b1 : decide ((ji4 : Int).toNat ≤ 35184372088832) = true := decide_eq_true c6; clear c6; obtain ⟨y510, hy510⟩ : ∃ y_ : List Int, y_ = (List.replicate (ji4 : Int).toNat 0) := ⟨_, rfl⟩
   replace H : (spec_l03Table.l0 k l0 a1 a2 y510 1) = some r := by first | (rw [hy510]; with_reducible exact H) | (have H2_ := (Option.bind_some _ _).symm.trans H; rw [hy510]; with_reducible exact H2_) | (have H2_ := (Option.bind_some _ _).symm.trans H; with_reducible exact H2_) | with_reducible exact H | (rw [hy510]; exact H) | exact H
   have Ny510 := am_ hy510; clear hy510; have H' := am_ H; clear H
   go_enter Try.func93, Try.ntmps93
   go_wp2_with (first | ((with_reducible refine gate_dst (N := 18) rfl ?_); refine Kd.R_make (Kd.int .i64) _ 2 rfl (N := 18) rfl 22 _ _ rfl ji4 rfl rfl Try.underlying22 (.int .i64 0) 8 info2 rfl (by decide) (by omega) 0 (ok := fun _ => True) (okp := fun _ => True) rfl (fun _ hk => hk) trivial (od_ (by first | (with_reducible assumption) | assumption)) (Nat.le_trans (Nat.mul_le_mul_right _ (od_ (by first | (with_reducible assumption) | assumption) : ji4.toNat ≤ 35184372088832)) (by omega)) (Below.refl _ _) (Nat.le_refl _) ?_; intro v511 w7 ho8 hb hg_ hnew_; clear hg_ hnew_; (first | rw [← Ny510.out] at ho8 | (simp only [Int.reduceToNat] at ho8; rw [← Ny510.out] at ho8)); have n0_ := am_ (Kd.R_lower (Kd.R_newM (M := fun k_ => (w.heap.size ≤ k_)) ho8 (below_size (by repeat (first | (with_reducible first | exact HB.out | apply bA_ | apply bN_ | apply bD_) | exact HB.out))) (fun k_ h_ => h_)) (below_size (by repeat (first | (with_reducible first | exact HB.out | apply bA_ | apply bN_ | apply bD_) | exact HB.out)))); have n1_ := am_ (bT_ (by repeat (first | (with_reducible first | exact HB.out | apply bA_ | apply bN_ | apply bD_) | exact HB.out)) hb); clear HB; have HO512 := n0_; have HB := n1_; clear n0_ n1_; clear hb ho8))
   go_loopg [8] k (fun kq v8 w' => ∃ (x7_1 : List Int) (x8_1 : Int), v8 = .int .i64 x8_1 ∧ Aside0 (spec_l03Table.l0 kq l0 a1 a2 x7_1 x8_1 = some r) ∧ Aside0 (kq ≤ k) ∧ Aside0 (Kd.R (Kd.int .i64) 2 w' w.heap.size (fun k_ => (w.heap.size ≤ k_)) v511 x7_1) ∧ Aside0 (Below w.heap.size w w'))
   case atStart => exact ⟨(y510), (1), (by first | rfl | (simp; done) | (simp [*]; done)), H', ⟨Nat.le_refl _⟩, ⟨by (with_reducible repeat (first | apply Kd.R_alloc | apply Kd.R_drewN | apply Kd.R_drew)); exact Kd.R_mono HO512.out (fun _ hk => hk.1)⟩, ⟨by repeat (first | (with_reducible first | exact HB.out | apply bA_ | apply bN_ | apply bD_) | exact HB.out)⟩⟩
   case round =>
    clear H'; (try clear p2); (try clear c5); (try clear c5b0); (try clear c5b1); (try clear c6); (try clear c6b0); (try clear c6b1); (try clear p6); obtain ⟨x7_1, x8_1, rfl, HA, HK1, HO_7, HB⟩ := hrel
    cases gk with
    | zero => exact absurd HA.out (by simp [spec_l03Table.l0])
    | succ k1 =>
     have H := HA.out; clear HA; simp only [spec_l03Table.l0] at H
     by_cases c9 : x8_1 ≤ a2
     ·
      rw [if_pos c9] at H; have c9b0 : decide (x8_1 ≤ a2) = true := decide_eq_true c9; clear c9
      by_cases c10 : 0 ≤ x8_1
      ·
       rw [if_pos c10] at H; have c10b0 : decide (0 ≤ x8_1) = true := decide_eq_true c10; clear c10
       by_cases c11 : x8_1 < (x7_1.length : Int)
       ·
        rw [if_pos c11] at H; have c11b0 : decide (x8_1 < (x7_1.length : Int)) = true := decide_eq_true c11; clear c11; obtain ⟨y513, hy513⟩ : ∃ y_ : List Int, y_ = (x7_1.set (x8_1 : Int).toNat (-1)) := ⟨_, rfl⟩
        replace H : (spec_l03Table.l0 k1 l0 a1 a2 y513 (wrap64 (x8_1 + 1))) = some r := by first | (rw [hy513]; with_reducible exact H) | (have H2_ := (Option.bind_some _ _).symm.trans H; rw [hy513]; with_reducible exact H2_) | (have H2_ := (Option.bind_some _ _).symm.trans H; with_reducible exact H2_) | with_reducible exact H | (rw [hy513]; exact H) | exact H
        have Ny513 := am_ hy513; clear hy513; have H' := am_ H; clear H; have p12 : 0 ≤ (x8_1 : Int) := od_ (by first | (with_reducible assumption) | assumption); have q12 : (x8_1 : Int) < ((x7_1.length : Int) : Int) := od_ (by first | (with_reducible assumption) | assumption); obtain ⟨go12, co12, eo12, gb12, gl12, cl12, HG12⟩ := Kd.R_form HO_7.out (by omega)
        (first | cases eo12 | (injection eo12 with ea_ en_ ec_; (first | subst ea_ | (injection ea_ with ea_; subst ea_)); subst ec_; clear en_))
        have GB12 := am_ gb12; have GG12 := am_ HG12; clear gb12 gl12 HG12; obtain ⟨hx12_0, hf12_0⟩ := Kd.R_celln 0 HO_7.out (x8_1 : Int) p12 q12; replace p12 := eq_true p12; replace q12 := eq_true q12; have HP13 := Kd.R_putg HO_7.out (x8_1 : Int) (-1)
        go_wp2_with (first | ((with_reducible refine gate_store (t := 2) (p := 26) rfl ?_); refine store_event (t := 2) (p := 26) (v := ?vo_w14) (w1 := (wr.setCell ⟨go12, (x8_1 : Int).toNat, none⟩ (.int .i64 (-1)))) ?hg ?ho ?hn ?hr ?_; (case ho => rfl); (case hg => rfl); (case hn => rfl); (case hr => first | (go_simp; done) | (go_simp; rfl)); intro w14 hw; have hg : wr.grownBy w14 (some go12) := (by rw [hw]; exact HP13.2); have hp_ : Kd.R (Kd.int .i64) 2 w14 w.heap.size (fun k_ => (w.heap.size ≤ k_)) (.slice (some ⟨go12, 0, none⟩) x7_1.length co12) y513 := (by rw [hw, Ny513.out]; exact HP13.1); clear HP13; have n0_ := am_ (hp_); have n1_ := am_ ((by rw [hw]; exact bS_ (HB.out) GB12.out : Below w.heap.size w w14)); clear HO_7; clear HB; have HO_7 := n0_; have HB := n1_; clear n0_ n1_; clear hg hw hp_))
        go_roundg k1
        case measure => have := HK1.out; omega
        case rel => exact ⟨(y513), (wrap64 (x8_1 + 1)), (by first | rfl | (simp; done) | (simp [*]; done)), H', ⟨by have := HK1.out; omega⟩, ⟨by (with_reducible repeat (first | apply Kd.R_alloc | apply Kd.R_drewN | apply Kd.R_drew)); exact HO_7.out⟩, ⟨by repeat (first | (with_reducible first | exact HB.out | apply bA_ | apply bN_ | apply bD_) | exact HB.out)⟩⟩
       ·
        rw [if_neg c11] at H; exact absurd H (by simp)
      ·
       rw [if_neg c10] at H; exact absurd H (by simp)
     ·
      rw [if_neg c9] at H; have c9b0 : decide (x8_1 ≤ a2) = false := decide_eq_false c9; clear c9; obtain ⟨y514, hy514⟩ : ∃ y_ : List (List Int), y_ = (([x7_1] : List (List Int))) := ⟨_, rfl⟩
      replace H : (spec_l03Table.l1 k1 l0 a1 a2 y514 (wrap64 ((l0.length : Int) - 1))) = some r := by first | (rw [hy514]; with_reducible exact H) | (have H2_ := (Option.bind_some _ _).symm.trans H; rw [hy514]; with_reducible exact H2_) | (have H2_ := (Option.bind_some _ _).symm.trans H; with_reducible exact H2_) | with_reducible exact H | (rw [hy514]; exact H) | exact H
      have Ny514 := am_ hy514; clear hy514; have H' := am_ H; clear H; obtain ⟨Ao15, co15, eo15⟩ := Kd.R_slice HO_7.out; subst eo15
      go_wp2_with (first | ((with_reducible refine gate_dst (N := 28) rfl ?_); refine Kd.N_lit (Kd.slice 2 (Kd.int .i64)) _ 22 ?hg (N' := 28) ?hd (xs := ([x7_1] : List (List Int))) (inner := [.slice Ao15 x7_1.length co15]) (ok := (fun k_ => (w.heap.size ≤ k_))) (okp := (fun k_ => (w.heap.size ≤ k_))) ?hr ?hp (fun _ hk => hk) ((show ∀ k_, wr.heap.size ≤ k_ → (fun k_ => (w.heap.size ≤ k_)) k_ from fun k_ hk => (Nat.le_trans (below_size (by repeat (first | (with_reducible first | exact HB.out | apply bA_ | apply bN_ | apply bD_) | exact HB.out))) hk)) _ (Nat.le_refl _)) (Below.refl _ _) (Nat.le_refl _) (by simp) ?_; (case hd => rfl); (case hg => rfl); (case hr => first | (go_simp; done) | (go_simp; rfl)); (case hp => exact (Reps.one (show Kd.FK (Kd.slice 2 (Kd.int .i64)) _ _ x7_1 [.slice Ao15 x7_1.length co15] from (Kd.FK_slice_mk (Kd.R_reads' (Kd.R_mono (ok' := (fun k_ => (w.heap.size ≤ k_))) (HO_7.out) (fun k_ hk => hk))).2.1 (Kd.R_F (Kd.R_mono (ok' := (fun k_ => (w.heap.size ≤ k_))) (HO_7.out) (fun k_ hk => hk))))) (Reps.none _ _))); intro v515 w16 ho17 hb hg_ hnew_; clear hg_ hnew_; (first | rw [← Ny514.out] at ho17 | (simp only [Int.reduceToNat] at ho17; rw [← Ny514.out] at ho17)); have n0_ := am_ (Kd.N_lower ho17 (below_size (by repeat (first | (with_reducible first | exact HB.out | apply bA_ | apply bN_ | apply bD_) | exact HB.out)))); have n1_ := am_ (bT_ (by repeat (first | (with_reducible first | exact HB.out | apply bA_ | apply bN_ | apply bD_) | exact HB.out)) hb); clear HB; clear HO_7; have HO516 := n0_; have HB := n1_; clear n0_ n1_; clear hb ho17))
      go_loopg [9, 10] k1 (fun kq v9 v10 w' => ∃ (x9_2 : List (List Int)) (x10_2 : Int), v10 = .int .i64 x10_2 ∧ Aside0 (spec_l03Table.l1 kq l0 a1 a2 x9_2 x10_2 = some r) ∧ Aside0 (kq ≤ k1) ∧ Aside0 (Kd.N (Kd.slice 2 (Kd.int .i64)) 22 w' w.heap.size (fun k_ => (w.heap.size ≤ k_)) v9 x9_2) ∧ Aside0 (Below w.heap.size w w'))
      case atStart => exact ⟨(y514), (wrap64 ((l0.length : Int) - 1)), (by first | rfl | (simp; done) | (simp [*]; done)), H', ⟨Nat.le_refl _⟩, ⟨by (with_reducible repeat (first | apply Kd.N_alloc | apply Kd.N_drewN | apply Kd.N_drew)); exact HO516.out⟩, ⟨by repeat (first | (with_reducible first | exact HB.out | apply bA_ | apply bN_ | apply bD_) | exact HB.out)⟩⟩
      case round =>
       clear H'; (try clear c1); (try clear p1); (try clear q1); (try clear hx1); (try clear p2); (try clear c5); (try clear c5b0); (try clear c5b1); (try clear c6); (try clear c6b0); (try clear c6b1); (try clear p6); (try clear c9); (try clear c9b0); (try clear c10); (try clear c10b0); (try clear c11); (try clear c11b0); (try clear p12); (try clear q12); (try clear hx12); (try clear hf12); (try clear hx12_0); (try clear p12); (try clear p2); (try clear p6); (try clear q12); obtain ⟨x9_2, x10_2, rfl, HA, HK2, HO_9, HB⟩ := hrel
       cases gk with
       | zero => exact absurd HA.out (by simp [spec_l03Table.l1])
       | succ k2 =>
        have H := HA.out; clear HA; simp only [spec_l03Table.l1] at H
        by_cases c18 : x10_2 ≥ 0
        ·
         rw [if_pos c18] at H; have c18b0 : decide (0 ≤ x10_2) = true := decide_eq_true c18; clear c18
         by_cases c19 : 0 ≤ x10_2
         ·
          rw [if_pos c19] at H; have c19b0 : decide (0 ≤ x10_2) = true := decide_eq_true c19; clear c19
          by_cases c20 : x10_2 < (l0.length : Int)
          ·
           rw [if_pos c20] at H; have c20b0 : decide (x10_2 < (l0.length : Int)) = true := decide_eq_true c20; clear c20; replace H : (if 0 ≤ (ji4) then (if (ji4 : Int).toNat ≤ 35184372088832 then (spec_l03Table.l2 k2 l0 a1 a2 x9_2 x10_2 (wrap64 ((wrap64 ((rd_T68 l0 x10_2).f0)) + a1)) (List.replicate (ji4 : Int).toNat 0) 0) else (none)) else (none)) = some r := by first | (rw [hji4] at H; exact H) | (simp only [hji4] at H ⊢; exact H)
           have hji4w : (IntKind.i64.wrap (a2 + 1)) = ji4 := (i64_w _).trans hji4
           by_cases c21 : 0 ≤ (ji4)
           ·
            rw [if_pos c21] at H; have c21b0 := eq_true c21; have c21b1 : decide (0 ≤ (ji4)) = true := decide_eq_true c21; clear c21
            by_cases c22 : (ji4 : Int).toNat ≤ 35184372088832
            ·
             rw [if_pos c22] at H; have c22b0 := eq_true c22; have c22b1 : decide ((ji4 : Int).toNat ≤ 35184372088832) = true := decide_eq_true c22; clear c22; obtain ⟨y518, hy518⟩ : ∃ y_ : List Int, y_ = (List.replicate (ji4 : Int).toNat 0) := ⟨_, rfl⟩
             replace H : (spec_l03Table.l2 k2 l0 a1 a2 x9_2 x10_2 (wrap64 ((wrap64 ((rd_T68 l0 x10_2).f0)) + a1)) y518 0) = some r := by first | (rw [hy518]; with_reducible exact H) | (have H2_ := (Option.bind_some _ _).symm.trans H; rw [hy518]; with_reducible exact H2_) | (have H2_ := (Option.bind_some _ _).symm.trans H; with_reducible exact H2_) | with_reducible exact H | (rw [hy518]; exact H) | exact H
             have Ny518 := am_ hy518; clear hy518; have H' := am_ H; clear H; have p517 : 0 ≤ (x10_2 : Int) := od_ (by first | (with_reducible assumption) | assumption); have q517 : x10_2 < (l0.length : Int) := od_ (by first | (with_reducible assumption) | assumption); obtain ⟨ad517, e517, hx517_0, hx517_1⟩ := at_T68 HR0.out x10_2 p517 q517
             cases e517
             replace hx517_0 := (HB.out.cell (bl_ w _ hx517_0)).trans hx517_0; replace hx517_1 := (HB.out.cell (bl_ w _ hx517_1)).trans hx517_1; replace p517 := eq_true p517; replace q517 := eq_true q517
             go_wp2_with (first | ((with_reducible refine gate_dst (N := 46) rfl ?_); refine Kd.R_make (Kd.int .i64) _ 2 rfl (N := 46) rfl 22 _ _ rfl ji4 rfl rfl Try.underlying22 (.int .i64 0) 8 info2 rfl (by decide) (by omega) 0 (ok := fun _ => True) (okp := fun _ => True) rfl (fun _ hk => hk) trivial (od_ (by first | (with_reducible assumption) | assumption)) (Nat.le_trans (Nat.mul_le_mul_right _ (od_ (by first | (with_reducible assumption) | assumption) : ji4.toNat ≤ 35184372088832)) (by omega)) (Below.refl _ _) (Nat.le_refl _) ?_; intro v519 w23 ho24 hb hg_ hnew_; clear hg_ hnew_; (first | rw [← Ny518.out] at ho24 | (simp only [Int.reduceToNat] at ho24; rw [← Ny518.out] at ho24)); have n0_ := am_ (Kd.N_elder' (by (with_reducible repeat (first | apply Kd.N_alloc | apply Kd.N_drewN | apply Kd.N_drew)); exact HO_9.out) (Kd.R_base ho24) hb); have n1_ := am_ (Kd.R_lower (Kd.R_newM (M := fun k_ => (w.heap.size ≤ k_)) ho24 (below_size (by repeat (first | (with_reducible first | exact HB.out | apply bA_ | apply bN_ | apply bD_) | exact HB.out))) (fun k_ h_ => h_)) (below_size (by repeat (first | (with_reducible first | exact HB.out | apply bA_ | apply bN_ | apply bD_) | exact HB.out)))); have n2_ := am_ (bT_ (by repeat (first | (with_reducible first | exact HB.out | apply bA_ | apply bN_ | apply bD_) | exact HB.out)) hb); clear HO_9; clear HB; have HO_9 := n0_; have HO520 := n1_; have HB := n2_; clear n0_ n1_ n2_; clear hb ho24))
             go_loopg [13] k2 (fun kq v13 w' => ∃ (x12_3 : List Int) (x13_3 : Int), v13 = .int .i64 x13_3 ∧ Aside0 (spec_l03Table.l2 kq l0 a1 a2 x9_2 x10_2 (wrap64 ((wrap64 ((rd_T68 l0 x10_2).f0)) + a1)) x12_3 x13_3 = some r) ∧ Aside0 (kq ≤ k2) ∧ Aside0 (Kd.N (Kd.slice 2 (Kd.int .i64)) 22 w' w.heap.size (fun k_ => (w.heap.size ≤ k_) ∧ some k_ ≠ (v519 : Value).ownBlock) u9 x9_2) ∧ Aside0 (Kd.R (Kd.int .i64) 2 w' w.heap.size (fun k_ => (w.heap.size ≤ k_)) v519 x12_3) ∧ Aside0 (Below w.heap.size w w'))
             case atStart => exact ⟨(y518), (0), (by first | rfl | (simp; done) | (simp [*]; done)), H', ⟨Nat.le_refl _⟩, ⟨by (with_reducible repeat (first | apply Kd.N_alloc | apply Kd.N_drewN | apply Kd.N_drew)); exact HO_9.out⟩, ⟨by (with_reducible repeat (first | apply Kd.R_alloc | apply Kd.R_drewN | apply Kd.R_drew)); exact Kd.R_mono HO520.out (fun _ hk => hk.1)⟩, ⟨by repeat (first | (with_reducible first | exact HB.out | apply bA_ | apply bN_ | apply bD_) | exact HB.out)⟩⟩
             case round =>
              clear H'; (try clear c1); (try clear p1); (try clear q1); (try clear hx1); (try clear c2); (try clear p2); (try clear c5); (try clear c5b0); (try clear c5b1); (try clear p5); (try clear q5); (try clear hx5); (try clear c6); (try clear c6b0); (try clear c6b1); (try clear p6); (try clear c9); (try clear c9b0); (try clear c10); (try clear c10b0); (try clear c11); (try clear c11b0); (try clear p12); (try clear q12); (try clear hx12); (try clear hf12); (try clear c18); (try clear c18b0); (try clear c19); (try clear c19b0); (try clear c20); (try clear c20b0); (try clear c21); (try clear c21b0); (try clear c21b1); (try clear c22); (try clear c22b0); (try clear c22b1); (try clear hx12_0); (try clear hx517_0); (try clear hx517_1); (try clear p1); (try clear p12); (try clear p2); (try clear p517); (try clear p6); (try clear q1); (try clear q12); (try clear q517); obtain ⟨x12_3, x13_3, rfl, HA, HK3, HO_9, HO_12, HB⟩ := hrel
              cases gk with
              | zero => exact absurd HA.out (by simp [spec_l03Table.l2])
              | succ k3 =>
               have H := HA.out; clear HA; simp only [spec_l03Table.l2] at H
               by_cases c25 : x13_3 ≤ a2
               ·
                rw [if_pos c25] at H; have c25b0 : decide (x13_3 ≤ a2) = true := decide_eq_true c25; clear c25
                by_cases c26 : 0 ≤ x13_3
                ·
                 rw [if_pos c26] at H; have c26b0 : decide (0 ≤ x13_3) = true := decide_eq_true c26; clear c26
                 by_cases c27 : x13_3 < (x12_3.length : Int)
                 ·
                  rw [if_pos c27] at H; have c27b0 : decide (x13_3 < (x12_3.length : Int)) = true := decide_eq_true c27; clear c27; obtain ⟨y527, hy527⟩ : ∃ y_ : List Int, y_ = (x12_3.set (x13_3 : Int).toNat (-1)) := ⟨_, rfl⟩
                  replace H : (spec_l03Table.l3 k3 l0 a1 a2 x9_2 x10_2 (wrap64 ((wrap64 ((rd_T68 l0 x10_2).f0)) + a1)) y527 x13_3 0) = some r := by first | (rw [hy527]; with_reducible exact H) | (have H2_ := (Option.bind_some _ _).symm.trans H; rw [hy527]; with_reducible exact H2_) | (have H2_ := (Option.bind_some _ _).symm.trans H; with_reducible exact H2_) | with_reducible exact H | (rw [hy527]; exact H) | exact H
                  have Ny527 := am_ hy527; clear hy527; have H' := am_ H; clear H; have p28 : 0 ≤ (x13_3 : Int) := od_ (by first | (with_reducible assumption) | assumption); have q28 : (x13_3 : Int) < ((x12_3.length : Int) : Int) := od_ (by first | (with_reducible assumption) | assumption); obtain ⟨go28, co28, eo28, gb28, gl28, cl28, HG28⟩ := Kd.R_form HO_12.out (by omega)
                  (first | cases eo28 | (injection eo28 with ea_ en_ ec_; (first | subst ea_ | (injection ea_ with ea_; subst ea_)); subst ec_; clear en_))
                  have GB28 := am_ gb28; have GG28 := am_ HG28; clear gb28 gl28 HG28; obtain ⟨hx28_0, hf28_0⟩ := Kd.R_celln 0 HO_12.out (x13_3 : Int) p28 q28; replace p28 := eq_true p28; replace q28 := eq_true q28; have HP29 := Kd.R_putg HO_12.out (x13_3 : Int) (-1)
                  go_wp2_with (first | ((with_reducible refine gate_store (t := 2) (p := 54) rfl ?_); refine store_event (t := 2) (p := 54) (v := ?vo_w30) (w1 := (wr.setCell ⟨go28, (x13_3 : Int).toNat, none⟩ (.int .i64 (-1)))) ?hg ?ho ?hn ?hr ?_; (case ho => rfl); (case hg => rfl); (case hn => rfl); (case hr => first | (go_simp; done) | (go_simp; rfl)); intro w30 hw; have hg : wr.grownBy w30 (some go28) := (by rw [hw]; exact HP29.2); have hp_ : Kd.R (Kd.int .i64) 2 w30 w.heap.size (fun k_ => (w.heap.size ≤ k_)) (.slice (some ⟨go28, 0, none⟩) x12_3.length co28) y527 := (by rw [hw, Ny527.out]; exact HP29.1); clear HP29; have n0_ := am_ (Kd.N_afterv (v := (.slice (some ⟨go28, 0, none⟩) x12_3.length co28)) (v1 := (.slice (some ⟨go28, 0, none⟩) x12_3.length co28)) (ok := (fun k_ => (w.heap.size ≤ k_))) (by (with_reducible repeat (first | apply Kd.N_alloc | apply Kd.N_drewN | apply Kd.N_drew)); exact HO_9.out) hg (.inl rfl)); have n1_ := am_ (hp_); have n2_ := am_ ((by rw [hw]; exact bS_ (HB.out) GB28.out : Below w.heap.size w w30)); clear HO_9; clear HO_12; clear HB; have HO_9 := n0_; have HO_12 := n1_; have HB := n2_; clear n0_ n1_ n2_; clear hg hw hp_))
                  go_loopg [14] k3 (fun kq v14 w' => ∃ (x12_4 : List Int) (x14_4 : Int), v14 = .int .i64 x14_4 ∧ Aside0 (spec_l03Table.l3 kq l0 a1 a2 x9_2 x10_2 (wrap64 ((wrap64 ((rd_T68 l0 x10_2).f0)) + a1)) x12_4 x13_3 x14_4 = some r) ∧ Aside0 (kq ≤ k3) ∧ Aside0 (Kd.N (Kd.slice 2 (Kd.int .i64)) 22 w' w.heap.size (fun k_ => (w.heap.size ≤ k_) ∧ some k_ ≠ ((.slice (some ⟨go28, 0, none⟩) x12_3.length co28) : Value).ownBlock) u9 x9_2) ∧ Aside0 (Kd.R (Kd.int .i64) 2 w' w.heap.size (fun k_ => (w.heap.size ≤ k_)) (.slice (some ⟨go28, 0, none⟩) x12_3.length co28) x12_4) ∧ Aside0 (Below w.heap.size w w'))
                  case atStart => exact ⟨(y527), (0), (by first | rfl | (simp; done) | (simp [*]; done)), H', ⟨Nat.le_refl _⟩, ⟨by (with_reducible repeat (first | apply Kd.N_alloc | apply Kd.N_drewN | apply Kd.N_drew)); exact HO_9.out⟩, ⟨by (with_reducible repeat (first | apply Kd.R_alloc | apply Kd.R_drewN | apply Kd.R_drew)); exact HO_12.out⟩, ⟨by repeat (first | (with_reducible first | exact HB.out | apply bA_ | apply bN_ | apply bD_) | exact HB.out)⟩⟩
                  case round =>
                   clear H'; (try clear c1); (try clear p1); (try clear q1); (try clear hx1); (try clear c2); (try clear p2); (try clear q2); (try clear hx2); (try clear c5); (try clear c5b0); (try clear c5b1); (try clear p5); (try clear q5); (try clear hx5); (try clear c6); (try clear c6b0); (try clear c6b1); (try clear p6); (try clear c9); (try clear c9b0); (try clear c10); (try clear c10b0); (try clear c11); (try clear c11b0); (try clear p12); (try clear q12); (try clear hx12); (try clear hf12); (try clear c18); (try clear c18b0); (try clear c19); (try clear c19b0); (try clear c20); (try clear c20b0); (try clear c21); (try clear c21b0); (try clear c21b1); (try clear c22); (try clear c22b0); (try clear c22b1); (try clear c25); (try clear c25b0); (try clear c26); (try clear c26b0); (try clear c27); (try clear c27b0); (try clear p28); (try clear q28); (try clear hx28); (try clear hf28); (try clear hx12_0); (try clear hx28_0); (try clear hx517_0); (try clear hx517_1); (try clear p1); (try clear p12); (try clear p2); (try clear p28); (try clear p5); (try clear p517); (try clear p6); (try clear q1); (try clear q12); (try clear q28); (try clear q5); (try clear q517); obtain ⟨x12_4, x14_4, rfl, HA, HK4, HO_9, HO_12, HB⟩ := hrel; have hl12_4 := (Kd.R_reads' HO_12.out).1; rw [hl12_4] at HO_12; (try simp only [hl12_4]); (try simp only [hl12_4] at HO_9)
                   cases gk with
                   | zero => exact absurd HA.out (by simp [spec_l03Table.l3])
                   | succ k4 =>
                    have H := HA.out; clear HA; simp only [spec_l03Table.l3] at H; have HC31 := am_ H; clear H
                    go_upto_region 17 with (fail)
                    go_cut [69] (fun v69 wc => ∃ (kq : Nat) (x69_30 : Bool), v69 = .bool x69_30 ∧ Aside0 (spec_l03Table.j4 kq l0 a1 a2 x9_2 x10_2 (wrap64 ((wrap64 ((rd_T68 l0 x10_2).f0)) + a1)) x12_4 x13_3 x14_4 x69_30 = some r) ∧ Aside0 (kq ≤ k4) ∧ Aside0 (Kd.N (Kd.slice 2 (Kd.int .i64)) 22 wc w.heap.size (fun k_ => (w.heap.size ≤ k_) ∧ some k_ ≠ ((.slice (some ⟨go28, 0, none⟩) x12_4.length co28) : Value).ownBlock) u9 x9_2) ∧ Aside0 (Kd.R (Kd.int .i64) 2 wc w.heap.size (fun k_ => (w.heap.size ≤ k_)) (.slice (some ⟨go28, 0, none⟩) x12_4.length co28) x12_4) ∧ Aside0 (Below w.heap.size w wc))
                    case first =>
                     have H := HC31.out; clear HC31
                     by_cases c32 : 0 ≤ x10_2
                     ·
                      rw [if_pos c32] at H; have c32b0 : decide (0 ≤ x10_2) = true := decide_eq_true c32; clear c32
                      (first | rw [c32b0] | (simp only [i64_w, i32_w]; rw [c32b0]) | skip)
                      by_cases c33 : x10_2 < (l0.length : Int)
                      ·
                       rw [if_pos c33] at H; have c33b0 : decide (x10_2 < (l0.length : Int)) = true := decide_eq_true c33; clear c33
                       by_cases c34 : x14_4 ≤ (wrap64 ((rd_T68 l0 x10_2).f1))
                       ·
                        rw [if_pos c34] at H; have c34b0 : decide (x14_4 ≤ (wrap64 ((rd_T68 l0 x10_2).f1))) = true := decide_eq_true c34; clear c34; have H' := am_ H; clear H; have p528 : 0 ≤ (x10_2 : Int) := od_ (by first | (with_reducible assumption) | assumption); have q528 : x10_2 < (l0.length : Int) := od_ (by first | (with_reducible assumption) | assumption); obtain ⟨ad528, e528, hx528_0, hx528_1⟩ := at_T68 HR0.out x10_2 p528 q528; obtain rfl : ad517 = ad528 := (by injection e528)
                        replace hx528_0 := (HB.out.cell (bl_ w _ hx528_0)).trans hx528_0; replace hx528_1 := (HB.out.cell (bl_ w _ hx528_1)).trans hx528_1; replace p528 := eq_true p528; replace q528 := eq_true q528
                        go_wp2
                        go_meet
                        case rel => exact ⟨_, (decide ((wrap64 (x14_4 * (wrap64 ((wrap64 ((rd_T68 l0 x10_2).f0)) + a1)))) ≤ x13_3)), (by first | rfl | (simp; done) | (simp [*]; done)), H', ⟨by have := HK1.out; have := HK2.out; have := HK3.out; have := HK4.out; first | omega | exact Nat.le_refl _⟩, ⟨by (try simp only [hl12_4]); (with_reducible repeat (first | apply Kd.N_alloc | apply Kd.N_drewN | apply Kd.N_drew)); exact HO_9.out⟩, ⟨by (try simp only [hl12_4]); (with_reducible repeat (first | apply Kd.R_alloc | apply Kd.R_drewN | apply Kd.R_drew)); exact HO_12.out⟩, ⟨by repeat (first | (with_reducible first | exact HB.out | apply bA_ | apply bN_ | apply bD_) | exact HB.out)⟩⟩
                       ·
                        rw [if_neg c34] at H; have c34b0 : decide (x14_4 ≤ (wrap64 ((rd_T68 l0 x10_2).f1))) = false := decide_eq_false c34; clear c34; have H' := am_ H; clear H; have p528 : 0 ≤ (x10_2 : Int) := od_ (by first | (with_reducible assumption) | assumption); have q528 : x10_2 < (l0.length : Int) := od_ (by first | (with_reducible assumption) | assumption); obtain ⟨ad528, e528, hx528_0, hx528_1⟩ := at_T68 HR0.out x10_2 p528 q528; obtain rfl : ad517 = ad528 := (by injection e528)
                        replace hx528_0 := (HB.out.cell (bl_ w _ hx528_0)).trans hx528_0; replace hx528_1 := (HB.out.cell (bl_ w _ hx528_1)).trans hx528_1; replace p528 := eq_true p528; replace q528 := eq_true q528
                        go_wp2
                        go_meet
                        case rel => exact ⟨_, (false), (by first | rfl | (simp; done) | (simp [*]; done)), H', ⟨by have := HK1.out; have := HK2.out; have := HK3.out; have := HK4.out; first | omega | exact Nat.le_refl _⟩, ⟨by (try simp only [hl12_4]); (with_reducible repeat (first | apply Kd.N_alloc | apply Kd.N_drewN | apply Kd.N_drew)); exact HO_9.out⟩, ⟨by (try simp only [hl12_4]); (with_reducible repeat (first | apply Kd.R_alloc | apply Kd.R_drewN | apply Kd.R_drew)); exact HO_12.out⟩, ⟨by repeat (first | (with_reducible first | exact HB.out | apply bA_ | apply bN_ | apply bD_) | exact HB.out)⟩⟩
                      ·
                       rw [if_neg c33] at H; exact absurd H (by simp)
                     ·
                      rw [if_neg c32] at H; exact absurd H (by simp)
                    case rest =>
                     clear HC31; (try clear c1); (try clear p1); (try clear q1); (try clear hx1); (try clear c2); (try clear p2); (try clear q2); (try clear hx2); (try clear c3); (try clear c5); (try clear c5b0); (try clear c5b1); (try clear p5); (try clear q5); (try clear hx5); (try clear c6); (try clear c6b0); (try clear c6b1); (try clear p6); (try clear c9); (try clear c9b0); (try clear c10); (try clear c10b0); (try clear c11); (try clear c11b0); (try clear p12); (try clear q12); (try clear hx12); (try clear hf12); (try clear c18); (try clear c18b0); (try clear c19); (try clear c19b0); (try clear c20); (try clear c20b0); (try clear c21); (try clear c21b0); (try clear c21b1); (try clear c22); (try clear c22b0); (try clear c22b1); (try clear c25); (try clear c25b0); (try clear c26); (try clear c26b0); (try clear c27); (try clear c27b0); (try clear p28); (try clear q28); (try clear hx28); (try clear hf28); (try clear c32); (try clear c32b0); (try clear c33); (try clear c33b0); (try clear c34); (try clear c34b0); (try clear hx12_0); (try clear hx28_0); (try clear hx517_0); (try clear hx517_1); (try clear hx528_0); (try clear hx528_1); (try clear p1); (try clear p12); (try clear p2); (try clear p28); (try clear p5); (try clear p517); (try clear p528); (try clear p6); (try clear q1); (try clear q12); (try clear q2); (try clear q28); (try clear q5); (try clear q517); (try clear q528); obtain ⟨kq, x69_30, rfl, HA, HJ30, HO_9, HO_12, HB⟩ := hcut
                     cases kq with
                     | zero => exact absurd HA.out (by simp [spec_l03Table.j4])
                     | succ kj30 =>
                      have H := HA.out; clear HA; simp only [spec_l03Table.j4] at H
                      by_cases c35 : x69_30 = true
                      ·
                       subst c35; have H1 : (if 0 < (x9_2.length : Int) then (if 0 ≤ (wrap64 (x13_3 - (wrap64 (x14_4 * (wrap64 ((wrap64 ((rd_T68 l0 x10_2).f0)) + a1)))))) then (if (wrap64 (x13_3 - (wrap64 (x14_4 * (wrap64 ((wrap64 ((rd_T68 l0 x10_2).f0)) + a1)))))) < ((rd_L4 x9_2 0).length : Int) then (if (rd (rd_L4 x9_2 0) (wrap64 (x13_3 - (wrap64 (x14_4 * (wrap64 ((wrap64 ((rd_T68 l0 x10_2).f0)) + a1))))))) ≥ 0 then (if 0 ≤ x13_3 then (if x13_3 < (x12_4.length : Int) then (if (rd x12_4 x13_3) < 0 then (spec_l03Table.l3 kj30 l0 a1 a2 x9_2 x10_2 (wrap64 ((wrap64 ((rd_T68 l0 x10_2).f0)) + a1)) (x12_4.set (x13_3 : Int).toNat (wrap64 ((rd (rd_L4 x9_2 0) (wrap64 (x13_3 - (wrap64 (x14_4 * (wrap64 ((wrap64 ((rd_T68 l0 x10_2).f0)) + a1))))))) + x14_4))) x13_3 (wrap64 (x14_4 + 1))) else (if (wrap64 ((rd (rd_L4 x9_2 0) (wrap64 (x13_3 - (wrap64 (x14_4 * (wrap64 ((wrap64 ((rd_T68 l0 x10_2).f0)) + a1))))))) + x14_4)) < (rd x12_4 x13_3) then (spec_l03Table.l3 kj30 l0 a1 a2 x9_2 x10_2 (wrap64 ((wrap64 ((rd_T68 l0 x10_2).f0)) + a1)) (x12_4.set (x13_3 : Int).toNat (wrap64 ((rd (rd_L4 x9_2 0) (wrap64 (x13_3 - (wrap64 (x14_4 * (wrap64 ((wrap64 ((rd_T68 l0 x10_2).f0)) + a1))))))) + x14_4))) x13_3 (wrap64 (x14_4 + 1))) else (spec_l03Table.l3 kj30 l0 a1 a2 x9_2 x10_2 (wrap64 ((wrap64 ((rd_T68 l0 x10_2).f0)) + a1)) x12_4 x13_3 (wrap64 (x14_4 + 1))))) else (none)) else (none)) else (spec_l03Table.l3 kj30 l0 a1 a2 x9_2 x10_2 (wrap64 ((wrap64 ((rd_T68 l0 x10_2).f0)) + a1)) x12_4 x13_3 (wrap64 (x14_4 + 1)))) else (none)) else (none)) else (none)) = some r := by rw [if_pos rfl] at H; exact H
                       clear H; have H := H1; clear H1
                       by_cases c36 : 0 < (x9_2.length : Int)
                       ·
                        rw [if_pos c36] at H; have c36b0 : decide (0 < (x9_2.length : Int)) = true := decide_eq_true c36; have c36b1 : decide (0 < x9_2.length) = true := decide_eq_true (by omega); clear c36; obtain ⟨ji37, hji37⟩ : ∃ j_ : Int, (wrap64 (x13_3 - (wrap64 (x14_4 * (wrap64 ((wrap64 ((rd_T68 l0 x10_2).f0)) + a1)))))) = j_ := ⟨_, rfl⟩
                        replace H : (if 0 ≤ (ji37) then (if (ji37) < ((rd_L4 x9_2 0).length : Int) then (if (rd (rd_L4 x9_2 0) (ji37)) ≥ 0 then (if 0 ≤ x13_3 then (if x13_3 < (x12_4.length : Int) then (if (rd x12_4 x13_3) < 0 then (spec_l03Table.l3 kj30 l0 a1 a2 x9_2 x10_2 (wrap64 ((wrap64 ((rd_T68 l0 x10_2).f0)) + a1)) (x12_4.set (x13_3 : Int).toNat (wrap64 ((rd (rd_L4 x9_2 0) (ji37)) + x14_4))) x13_3 (wrap64 (x14_4 + 1))) else (if (wrap64 ((rd (rd_L4 x9_2 0) (ji37)) + x14_4)) < (rd x12_4 x13_3) then (spec_l03Table.l3 kj30 l0 a1 a2 x9_2 x10_2 (wrap64 ((wrap64 ((rd_T68 l0 x10_2).f0)) + a1)) (x12_4.set (x13_3 : Int).toNat (wrap64 ((rd (rd_L4 x9_2 0) (ji37)) + x14_4))) x13_3 (wrap64 (x14_4 + 1))) else (spec_l03Table.l3 kj30 l0 a1 a2 x9_2 x10_2 (wrap64 ((wrap64 ((rd_T68 l0 x10_2).f0)) + a1)) x12_4 x13_3 (wrap64 (x14_4 + 1))))) else (none)) else (none)) else (spec_l03Table.l3 kj30 l0 a1 a2 x9_2 x10_2 (wrap64 ((wrap64 ((rd_T68 l0 x10_2).f0)) + a1)) x12_4 x13_3 (wrap64 (x14_4 + 1)))) else (none)) else (none)) = some r := by first | (rw [hji37] at H; exact H) | (simp only [hji37] at H ⊢; exact H)
                        have hji37w : (IntKind.i64.wrap (x13_3 - (wrap64 (x14_4 * (wrap64 ((wrap64 ((rd_T68 l0 x10_2).f0)) + a1)))))) = ji37 := (i64_w _).trans hji37
                        by_cases c38 : 0 ≤ (ji37)
                        ·
                         rw [if_pos c38] at H; have c38b0 : decide (0 ≤ (ji37)) = true := decide_eq_true c38; clear c38
                         by_cases c39 : (ji37) < ((rd_L4 x9_2 0).length : Int)
                         ·
                          rw [if_pos c39] at H; have c39b0 : decide ((ji37) < ((rd_L4 x9_2 0).length : Int)) = true := decide_eq_true c39; clear c39
                          by_cases c40 : (rd (rd_L4 x9_2 0) (ji37)) ≥ 0
                          ·
                           rw [if_pos c40] at H; have c40b0 : decide (0 ≤ (rd (rd_L4 x9_2 0) (ji37))) = true := decide_eq_true c40; clear c40
                           by_cases c41 : 0 ≤ x13_3
                           ·
                            rw [if_pos c41] at H; have c41b0 : decide (0 ≤ x13_3) = true := decide_eq_true c41; clear c41
                            by_cases c42 : x13_3 < (x12_4.length : Int)
                            ·
                             rw [if_pos c42] at H; have c42b0 : decide (x13_3 < (x12_4.length : Int)) = true := decide_eq_true c42; clear c42
                             by_cases c43 : (rd x12_4 x13_3) < 0
                             ·
                              rw [if_pos c43] at H; have c43b0 : decide ((rd x12_4 x13_3) < 0) = true := decide_eq_true c43; clear c43; obtain ⟨y532, hy532⟩ : ∃ y_ : List Int, y_ = (x12_4.set (x13_3 : Int).toNat (wrap64 ((rd (rd_L4 x9_2 0) (ji37)) + x14_4))) := ⟨_, rfl⟩
                              replace H : (spec_l03Table.l3 kj30 l0 a1 a2 x9_2 x10_2 (wrap64 ((wrap64 ((rd_T68 l0 x10_2).f0)) + a1)) y532 x13_3 (wrap64 (x14_4 + 1))) = some r := by first | (rw [hy532]; with_reducible exact H) | (have H2_ := (Option.bind_some _ _).symm.trans H; rw [hy532]; with_reducible exact H2_) | (have H2_ := (Option.bind_some _ _).symm.trans H; with_reducible exact H2_) | with_reducible exact H | (rw [hy532]; exact H) | exact H
                              have Ny532 := am_ hy532; clear hy532; have H' := am_ H; clear H; obtain ⟨Ao45, co45, eo45⟩ := Kd.N_slice HO_9.out; subst eo45; have p529 : 0 ≤ (0 : Int) := (by omega)
                              have q529 : 0 < (x9_2.length : Int) := od_ (by first | (with_reducible assumption) | assumption); obtain ⟨ad529, A529_0, c529_0, e529, hx529_0, hl529_0, hi529_0⟩ := at_L4 (Kd.N_reads' HO_9.out).2.2 0 p529 q529
                              cases e529
                              obtain ⟨ce529, hce529, hMe529, hcc529⟩ := Kd.N_get HO_9.out [] 0 p529 (by first | exact q529 | exact od_ (by first | (with_reducible assumption) | assumption) | (have e_ := (Kd.N_reads' HO_9.out).1; omega)); obtain ⟨ua529_0, uc529_0, rfl, ul529_0, ge529_0⟩ := Kd.FK_slice_open hMe529; have hv529_0 := hcc529 0 _ rfl; rw [Nat.add_zero, show ((Kd.slice 2 (Kd.int .i64))).sz = 1 from rfl, Nat.mul_one] at hv529_0; replace hv529_0 := Option.some.inj (hv529_0.symm.trans hx529_0)
                              injection hv529_0 with hva_ hvn_ hvc_
                              rw [hva_] at ge529_0; rw [hvc_] at ul529_0; have HL529_0 := am_ (show Kd.V (Kd.int .i64) 2 _ w.heap.size _ _ (rd_L4 x9_2 0) from Kd.V_mk ul529_0 ge529_0); clear hva_ hvn_ hvc_ ge529_0 ul529_0; clear hcc529 hce529; have qi529 : (0 < x9_2.length) = True := eq_true (by omega); (try rw [show ((0 : Int)).toNat = 0 from rfl] at hx529_0); (try rw [Addr.add_zero'] at hx529_0); have HR529_0 := am_ hi529_0; have HC529_0 := am_ hl529_0; clear hi529_0 hl529_0; replace p529 := eq_true p529; replace q529 := eq_true q529; have p530 : 0 ≤ ((ji37) : Int) := od_ (by first | (with_reducible assumption) | assumption); have q530 : (ji37) < ((rd_L4 x9_2 0).length : Int) := od_ (by first | (with_reducible assumption) | assumption); obtain ⟨ad530, e530, hx530_0⟩ := Kd.at_int (by repeat (first | (with_reducible exact HR529_0.out) | (with_reducible refine Kd.C_alloc ?_ _) | (with_reducible refine Kd.C_drewN ?_ _) | (with_reducible refine Kd.C_drew ?_) | exact HR529_0.out)) (ji37) p530 q530
                              cases e530
                              replace p530 := eq_true p530; replace q530 := eq_true q530; have p531 : 0 ≤ (x13_3 : Int) := od_ (by first | (with_reducible assumption) | assumption); have q531 : x13_3 < (x12_4.length : Int) := od_ (by first | (with_reducible assumption) | assumption); obtain ⟨ad531, e531, hx531_0⟩ := Kd.at_int (Kd.R_reads' HO_12.out).2.2 x13_3 p531 q531; obtain rfl : (⟨go28, 0, none⟩ : Addr) = ad531 := (by injection e531)
                              (first | simp only [add_plain] at hx531_0 | simp only [add_at] at hx531_0 | simp only [Addr.add, Nat.zero_add] at hx531_0 | skip)
                              replace p531 := eq_true p531; replace q531 := eq_true q531; have p44 : 0 ≤ (x13_3 : Int) := od_ (by first | (with_reducible assumption) | assumption); have q44 : (x13_3 : Int) < ((x12_4.length : Int) : Int) := od_ (by first | (with_reducible assumption) | assumption); obtain ⟨hx44_0, hf44_0⟩ := Kd.R_celln 0 HO_12.out (x13_3 : Int) p44 q44; replace p44 := eq_true p44; replace q44 := eq_true q44; have HP46 := Kd.R_putg HO_12.out (x13_3 : Int) (wrap64 ((rd (rd_L4 x9_2 0) (ji37)) + x14_4))
                              go_wp2_with (first | ((with_reducible refine gate_store (t := 2) (p := 106) rfl ?_); refine store_event (t := 2) (p := 106) (v := ?vo_w47) (w1 := (wc.setCell ⟨go28, (x13_3 : Int).toNat, none⟩ (.int .i64 (wrap64 ((rd (rd_L4 x9_2 0) (ji37)) + x14_4))))) ?hg ?ho ?hn ?hr ?_; (case ho => rfl); (case hg => rfl); (case hn => rfl); (case hr => first | (go_simp; done) | (go_simp; rfl)); intro w47 hw; have hg : wc.grownBy w47 (some go28) := (by rw [hw]; exact HP46.2); have hp_ : Kd.R (Kd.int .i64) 2 w47 w.heap.size (fun k_ => (w.heap.size ≤ k_)) (.slice (some ⟨go28, 0, none⟩) x12_4.length co28) y532 := (by rw [hw, Ny532.out]; exact HP46.1); clear HP46; have n0_ := am_ (Kd.N_afterv (v := (.slice (some ⟨go28, 0, none⟩) x12_4.length co28)) (v1 := (.slice (some ⟨go28, 0, none⟩) x12_4.length co28)) (ok := (fun k_ => (w.heap.size ≤ k_))) (by (with_reducible repeat (first | apply Kd.N_alloc | apply Kd.N_drewN | apply Kd.N_drew)); exact HO_9.out) hg (.inl rfl)); have n1_ := am_ (hp_); have n2_ := am_ (Kd.V_afterv (v := (.slice (some ⟨go28, 0, none⟩) x12_4.length co28)) (v1 := (.slice (some ⟨go28, 0, none⟩) x12_4.length co28)) (ok := (fun k_ => (w.heap.size ≤ k_) ∧ some k_ ≠ (.slice (some ad529) x9_2.length co45 : Value).ownBlock)) (by (with_reducible repeat (first | apply Kd.V_alloc | apply Kd.V_drewN | apply Kd.V_drew)); exact Kd.V_mono HL529_0.out (fun _ hk => ⟨⟨hk.1.1, hk.2⟩, hk.1.2⟩)) hg (.inl rfl)); have n3_ := am_ ((by rw [hw]; exact bS_ (HB.out) GB28.out : Below w.heap.size w w47)); clear HO_9; clear HO_12; clear HL529_0; clear HB; have HO_9 := n0_; have HO_12 := n1_; have HL529_0 := n2_; have HB := n3_; clear n0_ n1_ n2_ n3_; clear hg hw hp_))
                              (try simp only [← hl12_4])
                              go_roundg kj30
                              case measure => have := HK1.out; have := HK2.out; have := HK3.out; have := HK4.out; have := HJ30.out; omega
                              case rel => exact ⟨(y532), (wrap64 (x14_4 + 1)), (by first | rfl | (simp; done) | (simp [*]; done)), H', ⟨by have := HK1.out; have := HK2.out; have := HK3.out; have := HK4.out; have := HJ30.out; omega⟩, ⟨by (try simp only [hl12_4]); (with_reducible repeat (first | apply Kd.N_alloc | apply Kd.N_drewN | apply Kd.N_drew)); exact HO_9.out⟩, ⟨by (try simp only [hl12_4]); (with_reducible repeat (first | apply Kd.R_alloc | apply Kd.R_drewN | apply Kd.R_drew)); exact HO_12.out⟩, ⟨by repeat (first | (with_reducible first | exact HB.out | apply bA_ | apply bN_ | apply bD_) | exact HB.out)⟩⟩
                             ·
                              rw [if_neg c43] at H; have c43b0 : decide ((rd x12_4 x13_3) < 0) = false := decide_eq_false c43; clear c43
                              by_cases c48 : (wrap64 ((rd (rd_L4 x9_2 0) (ji37)) + x14_4)) < (rd x12_4 x13_3)
                              ·
                               rw [if_pos c48] at H; have c48b0 : decide ((wrap64 ((rd (rd_L4 x9_2 0) (ji37)) + x14_4)) < (rd x12_4 x13_3)) = true := decide_eq_true c48; clear c48; obtain ⟨y534, hy534⟩ : ∃ y_ : List Int, y_ = (x12_4.set (x13_3 : Int).toNat (wrap64 ((rd (rd_L4 x9_2 0) (ji37)) + x14_4))) := ⟨_, rfl⟩
                               replace H : (spec_l03Table.l3 kj30 l0 a1 a2 x9_2 x10_2 (wrap64 ((wrap64 ((rd_T68 l0 x10_2).f0)) + a1)) y534 x13_3 (wrap64 (x14_4 + 1))) = some r := by first | (rw [hy534]; with_reducible exact H) | (have H2_ := (Option.bind_some _ _).symm.trans H; rw [hy534]; with_reducible exact H2_) | (have H2_ := (Option.bind_some _ _).symm.trans H; with_reducible exact H2_) | with_reducible exact H | (rw [hy534]; exact H) | exact H
                               have Ny534 := am_ hy534; clear hy534; have H' := am_ H; clear H; obtain ⟨Ao50, co50, eo50⟩ := Kd.N_slice HO_9.out; subst eo50; have p529 : 0 ≤ (0 : Int) := (by omega)
                               have q529 : 0 < (x9_2.length : Int) := od_ (by first | (with_reducible assumption) | assumption); obtain ⟨ad529, A529_0, c529_0, e529, hx529_0, hl529_0, hi529_0⟩ := at_L4 (Kd.N_reads' HO_9.out).2.2 0 p529 q529
                               cases e529
                               obtain ⟨ce529, hce529, hMe529, hcc529⟩ := Kd.N_get HO_9.out [] 0 p529 (by first | exact q529 | exact od_ (by first | (with_reducible assumption) | assumption) | (have e_ := (Kd.N_reads' HO_9.out).1; omega)); obtain ⟨ua529_0, uc529_0, rfl, ul529_0, ge529_0⟩ := Kd.FK_slice_open hMe529; have hv529_0 := hcc529 0 _ rfl; rw [Nat.add_zero, show ((Kd.slice 2 (Kd.int .i64))).sz = 1 from rfl, Nat.mul_one] at hv529_0; replace hv529_0 := Option.some.inj (hv529_0.symm.trans hx529_0)
                               injection hv529_0 with hva_ hvn_ hvc_
                               rw [hva_] at ge529_0; rw [hvc_] at ul529_0; have HL529_0 := am_ (show Kd.V (Kd.int .i64) 2 _ w.heap.size _ _ (rd_L4 x9_2 0) from Kd.V_mk ul529_0 ge529_0); clear hva_ hvn_ hvc_ ge529_0 ul529_0; clear hcc529 hce529; have qi529 : (0 < x9_2.length) = True := eq_true (by omega); (try rw [show ((0 : Int)).toNat = 0 from rfl] at hx529_0); (try rw [Addr.add_zero'] at hx529_0); have HR529_0 := am_ hi529_0; have HC529_0 := am_ hl529_0; clear hi529_0 hl529_0; replace p529 := eq_true p529; replace q529 := eq_true q529; have p530 : 0 ≤ ((ji37) : Int) := od_ (by first | (with_reducible assumption) | assumption); have q530 : (ji37) < ((rd_L4 x9_2 0).length : Int) := od_ (by first | (with_reducible assumption) | assumption); obtain ⟨ad530, e530, hx530_0⟩ := Kd.at_int (by repeat (first | (with_reducible exact HR529_0.out) | (with_reducible refine Kd.C_alloc ?_ _) | (with_reducible refine Kd.C_drewN ?_ _) | (with_reducible refine Kd.C_drew ?_) | exact HR529_0.out)) (ji37) p530 q530
                               cases e530
                               replace p530 := eq_true p530; replace q530 := eq_true q530; have p531 : 0 ≤ (x13_3 : Int) := od_ (by first | (with_reducible assumption) | assumption); have q531 : x13_3 < (x12_4.length : Int) := od_ (by first | (with_reducible assumption) | assumption); obtain ⟨ad531, e531, hx531_0⟩ := Kd.at_int (Kd.R_reads' HO_12.out).2.2 x13_3 p531 q531; obtain rfl : (⟨go28, 0, none⟩ : Addr) = ad531 := (by injection e531)
                               (first | simp only [add_plain] at hx531_0 | simp only [add_at] at hx531_0 | simp only [Addr.add, Nat.zero_add] at hx531_0 | skip)
                               replace p531 := eq_true p531; replace q531 := eq_true q531; have p533 : 0 ≤ (x13_3 : Int) := od_ (by first | (with_reducible assumption) | assumption); have q533 : x13_3 < (x12_4.length : Int) := od_ (by first | (with_reducible assumption) | assumption); obtain ⟨ad533, e533, hx533_0⟩ := Kd.at_int (Kd.R_reads' HO_12.out).2.2 x13_3 p533 q533; obtain rfl : (⟨go28, 0, none⟩ : Addr) = ad533 := (by injection e533)
                               (first | simp only [add_plain] at hx533_0 | simp only [add_at] at hx533_0 | simp only [Addr.add, Nat.zero_add] at hx533_0 | skip)
                               replace p533 := eq_true p533; replace q533 := eq_true q533; have p49 : 0 ≤ (x13_3 : Int) := od_ (by first | (with_reducible assumption) | assumption); have q49 : (x13_3 : Int) < ((x12_4.length : Int) : Int) := od_ (by first | (with_reducible assumption) | assumption); obtain ⟨hx49_0, hf49_0⟩ := Kd.R_celln 0 HO_12.out (x13_3 : Int) p49 q49; replace p49 := eq_true p49; replace q49 := eq_true q49; have HP51 := Kd.R_putg HO_12.out (x13_3 : Int) (wrap64 ((rd (rd_L4 x9_2 0) (ji37)) + x14_4))
                               go_wp2_with (first | ((with_reducible refine gate_store (t := 2) (p := 106) rfl ?_); refine store_event (t := 2) (p := 106) (v := ?vo_w52) (w1 := (wc.setCell ⟨go28, (x13_3 : Int).toNat, none⟩ (.int .i64 (wrap64 ((rd (rd_L4 x9_2 0) (ji37)) + x14_4))))) ?hg ?ho ?hn ?hr ?_; (case ho => rfl); (case hg => rfl); (case hn => rfl); (case hr => first | (go_simp; done) | (go_simp; rfl)); intro w52 hw; have hg : wc.grownBy w52 (some go28) := (by rw [hw]; exact HP51.2); have hp_ : Kd.R (Kd.int .i64) 2 w52 w.heap.size (fun k_ => (w.heap.size ≤ k_)) (.slice (some ⟨go28, 0, none⟩) x12_4.length co28) y534 := (by rw [hw, Ny534.out]; exact HP51.1); clear HP51; have n0_ := am_ (Kd.N_afterv (v := (.slice (some ⟨go28, 0, none⟩) x12_4.length co28)) (v1 := (.slice (some ⟨go28, 0, none⟩) x12_4.length co28)) (ok := (fun k_ => (w.heap.size ≤ k_))) (by (with_reducible repeat (first | apply Kd.N_alloc | apply Kd.N_drewN | apply Kd.N_drew)); exact HO_9.out) hg (.inl rfl)); have n1_ := am_ (hp_); have n2_ := am_ (Kd.V_afterv (v := (.slice (some ⟨go28, 0, none⟩) x12_4.length co28)) (v1 := (.slice (some ⟨go28, 0, none⟩) x12_4.length co28)) (ok := (fun k_ => (w.heap.size ≤ k_) ∧ some k_ ≠ (.slice (some ad529) x9_2.length co50 : Value).ownBlock)) (by (with_reducible repeat (first | apply Kd.V_alloc | apply Kd.V_drewN | apply Kd.V_drew)); exact Kd.V_mono HL529_0.out (fun _ hk => ⟨⟨hk.1.1, hk.2⟩, hk.1.2⟩)) hg (.inl rfl)); have n3_ := am_ ((by rw [hw]; exact bS_ (HB.out) GB28.out : Below w.heap.size w w52)); clear HO_9; clear HO_12; clear HL529_0; clear HB; have HO_9 := n0_; have HO_12 := n1_; have HL529_0 := n2_; have HB := n3_; clear n0_ n1_ n2_ n3_; clear hg hw hp_))
                               (try simp only [← hl12_4])
                               go_roundg kj30
                               case measure => have := HK1.out; have := HK2.out; have := HK3.out; have := HK4.out; have := HJ30.out; omega
                               case rel => exact ⟨(y534), (wrap64 (x14_4 + 1)), (by first | rfl | (simp; done) | (simp [*]; done)), H', ⟨by have := HK1.out; have := HK2.out; have := HK3.out; have := HK4.out; have := HJ30.out; omega⟩, ⟨by (try simp only [hl12_4]); (with_reducible repeat (first | apply Kd.N_alloc | apply Kd.N_drewN | apply Kd.N_drew)); exact HO_9.out⟩, ⟨by (try simp only [hl12_4]); (with_reducible repeat (first | apply Kd.R_alloc | apply Kd.R_drewN | apply Kd.R_drew)); exact HO_12.out⟩, ⟨by repeat (first | (with_reducible first | exact HB.out | apply bA_ | apply bN_ | apply bD_) | exact HB.out)⟩⟩
                              ·
                               rw [if_neg c48] at H; have c48b0 : decide ((wrap64 ((rd (rd_L4 x9_2 0) (ji37)) + x14_4)) < (rd x12_4 x13_3)) = false := decide_eq_false c48; clear c48; have H' := am_ H; clear H; obtain ⟨Ao53, co53, eo53⟩ := Kd.N_slice HO_9.out; subst eo53; have p529 : 0 ≤ (0 : Int) := (by omega)
                               have q529 : 0 < (x9_2.length : Int) := od_ (by first | (with_reducible assumption) | assumption); obtain ⟨ad529, A529_0, c529_0, e529, hx529_0, hl529_0, hi529_0⟩ := at_L4 (Kd.N_reads' HO_9.out).2.2 0 p529 q529
                               cases e529
                               obtain ⟨ce529, hce529, hMe529, hcc529⟩ := Kd.N_get HO_9.out [] 0 p529 (by first | exact q529 | exact od_ (by first | (with_reducible assumption) | assumption) | (have e_ := (Kd.N_reads' HO_9.out).1; omega)); obtain ⟨ua529_0, uc529_0, rfl, ul529_0, ge529_0⟩ := Kd.FK_slice_open hMe529; have hv529_0 := hcc529 0 _ rfl; rw [Nat.add_zero, show ((Kd.slice 2 (Kd.int .i64))).sz = 1 from rfl, Nat.mul_one] at hv529_0; replace hv529_0 := Option.some.inj (hv529_0.symm.trans hx529_0)
                               injection hv529_0 with hva_ hvn_ hvc_
                               rw [hva_] at ge529_0; rw [hvc_] at ul529_0; have HL529_0 := am_ (show Kd.V (Kd.int .i64) 2 _ w.heap.size _ _ (rd_L4 x9_2 0) from Kd.V_mk ul529_0 ge529_0); clear hva_ hvn_ hvc_ ge529_0 ul529_0; clear hcc529 hce529; have qi529 : (0 < x9_2.length) = True := eq_true (by omega); (try rw [show ((0 : Int)).toNat = 0 from rfl] at hx529_0); (try rw [Addr.add_zero'] at hx529_0); have HR529_0 := am_ hi529_0; have HC529_0 := am_ hl529_0; clear hi529_0 hl529_0; replace p529 := eq_true p529; replace q529 := eq_true q529; have p530 : 0 ≤ ((ji37) : Int) := od_ (by first | (with_reducible assumption) | assumption); have q530 : (ji37) < ((rd_L4 x9_2 0).length : Int) := od_ (by first | (with_reducible assumption) | assumption); obtain ⟨ad530, e530, hx530_0⟩ := Kd.at_int (by repeat (first | (with_reducible exact HR529_0.out) | (with_reducible refine Kd.C_alloc ?_ _) | (with_reducible refine Kd.C_drewN ?_ _) | (with_reducible refine Kd.C_drew ?_) | exact HR529_0.out)) (ji37) p530 q530
                               cases e530
                               replace p530 := eq_true p530; replace q530 := eq_true q530; have p531 : 0 ≤ (x13_3 : Int) := od_ (by first | (with_reducible assumption) | assumption); have q531 : x13_3 < (x12_4.length : Int) := od_ (by first | (with_reducible assumption) | assumption); obtain ⟨ad531, e531, hx531_0⟩ := Kd.at_int (Kd.R_reads' HO_12.out).2.2 x13_3 p531 q531; obtain rfl : (⟨go28, 0, none⟩ : Addr) = ad531 := (by injection e531)
                               (first | simp only [add_plain] at hx531_0 | simp only [add_at] at hx531_0 | simp only [Addr.add, Nat.zero_add] at hx531_0 | skip)
                               replace p531 := eq_true p531; replace q531 := eq_true q531; have p533 : 0 ≤ (x13_3 : Int) := od_ (by first | (with_reducible assumption) | assumption); have q533 : x13_3 < (x12_4.length : Int) := od_ (by first | (with_reducible assumption) | assumption); obtain ⟨ad533, e533, hx533_0⟩ := Kd.at_int (Kd.R_reads' HO_12.out).2.2 x13_3 p533 q533; obtain rfl : (⟨go28, 0, none⟩ : Addr) = ad533 := (by injection e533)
                               (first | simp only [add_plain] at hx533_0 | simp only [add_at] at hx533_0 | simp only [Addr.add, Nat.zero_add] at hx533_0 | skip)
                               replace p533 := eq_true p533; replace q533 := eq_true q533
                               go_wp2
                               (try simp only [← hl12_4])
                               go_roundg kj30
                               case measure => have := HK1.out; have := HK2.out; have := HK3.out; have := HK4.out; have := HJ30.out; omega
                               case rel => exact ⟨(x12_4), (wrap64 (x14_4 + 1)), (by first | rfl | (simp; done) | (simp [*]; done)), H', ⟨by have := HK1.out; have := HK2.out; have := HK3.out; have := HK4.out; have := HJ30.out; omega⟩, ⟨by (try simp only [hl12_4]); (with_reducible repeat (first | apply Kd.N_alloc | apply Kd.N_drewN | apply Kd.N_drew)); exact HO_9.out⟩, ⟨by (try simp only [hl12_4]); (with_reducible repeat (first | apply Kd.R_alloc | apply Kd.R_drewN | apply Kd.R_drew)); exact HO_12.out⟩, ⟨by repeat (first | (with_reducible first | exact HB.out | apply bA_ | apply bN_ | apply bD_) | exact HB.out)⟩⟩
                            ·
                             rw [if_neg c42] at H; exact absurd H (by simp)
                           ·
                            rw [if_neg c41] at H; exact absurd H (by simp)
                          ·
                           rw [if_neg c40] at H; have c40b0 : decide (0 ≤ (rd (rd_L4 x9_2 0) (ji37))) = false := decide_eq_false c40; clear c40; have H' := am_ H; clear H; obtain ⟨Ao54, co54, eo54⟩ := Kd.N_slice HO_9.out; subst eo54; have p529 : 0 ≤ (0 : Int) := (by omega)
                           have q529 : 0 < (x9_2.length : Int) := od_ (by first | (with_reducible assumption) | assumption); obtain ⟨ad529, A529_0, c529_0, e529, hx529_0, hl529_0, hi529_0⟩ := at_L4 (Kd.N_reads' HO_9.out).2.2 0 p529 q529
                           cases e529
                           obtain ⟨ce529, hce529, hMe529, hcc529⟩ := Kd.N_get HO_9.out [] 0 p529 (by first | exact q529 | exact od_ (by first | (with_reducible assumption) | assumption) | (have e_ := (Kd.N_reads' HO_9.out).1; omega)); obtain ⟨ua529_0, uc529_0, rfl, ul529_0, ge529_0⟩ := Kd.FK_slice_open hMe529; have hv529_0 := hcc529 0 _ rfl; rw [Nat.add_zero, show ((Kd.slice 2 (Kd.int .i64))).sz = 1 from rfl, Nat.mul_one] at hv529_0; replace hv529_0 := Option.some.inj (hv529_0.symm.trans hx529_0)
                           injection hv529_0 with hva_ hvn_ hvc_
                           rw [hva_] at ge529_0; rw [hvc_] at ul529_0; have HL529_0 := am_ (show Kd.V (Kd.int .i64) 2 _ w.heap.size _ _ (rd_L4 x9_2 0) from Kd.V_mk ul529_0 ge529_0); clear hva_ hvn_ hvc_ ge529_0 ul529_0; clear hcc529 hce529; have qi529 : (0 < x9_2.length) = True := eq_true (by omega); (try rw [show ((0 : Int)).toNat = 0 from rfl] at hx529_0); (try rw [Addr.add_zero'] at hx529_0); have HR529_0 := am_ hi529_0; have HC529_0 := am_ hl529_0; clear hi529_0 hl529_0; replace p529 := eq_true p529; replace q529 := eq_true q529; have p530 : 0 ≤ ((ji37) : Int) := od_ (by first | (with_reducible assumption) | assumption); have q530 : (ji37) < ((rd_L4 x9_2 0).length : Int) := od_ (by first | (with_reducible assumption) | assumption); obtain ⟨ad530, e530, hx530_0⟩ := Kd.at_int (by repeat (first | (with_reducible exact HR529_0.out) | (with_reducible refine Kd.C_alloc ?_ _) | (with_reducible refine Kd.C_drewN ?_ _) | (with_reducible refine Kd.C_drew ?_) | exact HR529_0.out)) (ji37) p530 q530
                           cases e530
                           replace p530 := eq_true p530; replace q530 := eq_true q530
                           go_wp2
                           (try simp only [← hl12_4])
                           go_roundg kj30
                           case measure => have := HK1.out; have := HK2.out; have := HK3.out; have := HK4.out; have := HJ30.out; omega
                           case rel => exact ⟨(x12_4), (wrap64 (x14_4 + 1)), (by first | rfl | (simp; done) | (simp [*]; done)), H', ⟨by have := HK1.out; have := HK2.out; have := HK3.out; have := HK4.out; have := HJ30.out; omega⟩, ⟨by (try simp only [hl12_4]); (with_reducible repeat (first | apply Kd.N_alloc | apply Kd.N_drewN | apply Kd.N_drew)); exact HO_9.out⟩, ⟨by (try simp only [hl12_4]); (with_reducible repeat (first | apply Kd.R_alloc | apply Kd.R_drewN | apply Kd.R_drew)); exact HO_12.out⟩, ⟨by repeat (first | (with_reducible first | exact HB.out | apply bA_ | apply bN_ | apply bD_) | exact HB.out)⟩⟩
                         ·
                          rw [if_neg c39] at H; exact absurd H (by simp)
                        ·
                         rw [if_neg c38] at H; exact absurd H (by simp)
                       ·
                        rw [if_neg c36] at H; exact absurd H (by simp)
                      ·
                       replace c35 := Bool.eq_false_iff.mpr c35; subst c35; have H1 : (spec_l03Table.l2 kj30 l0 a1 a2 x9_2 x10_2 (wrap64 ((wrap64 ((rd_T68 l0 x10_2).f0)) + a1)) x12_4 (wrap64 (x13_3 + 1))) = some r := by rw [if_neg (show ¬ (false = true) by decide)] at H; exact H
                       clear H; have H := H1; clear H1; have H' := am_ H; clear H
                       go_wp2
                       (try simp only [← hl12_4])
                       go_roundg kj30
                       case measure => have := HK1.out; have := HK2.out; have := HK3.out; have := HK4.out; have := HJ30.out; omega
                       case rel => exact ⟨(x12_4), (wrap64 (x13_3 + 1)), (by first | rfl | (simp; done) | (simp [*]; done)), H', ⟨by have := HK1.out; have := HK2.out; have := HK3.out; have := HK4.out; have := HJ30.out; omega⟩, ⟨by (try simp only [hl12_4]); (with_reducible repeat (first | apply Kd.N_alloc | apply Kd.N_drewN | apply Kd.N_drew)); exact HO_9.out⟩, ⟨by (try simp only [hl12_4]); (with_reducible repeat (first | apply Kd.R_alloc | apply Kd.R_drewN | apply Kd.R_drew)); exact HO_12.out⟩, ⟨by repeat (first | (with_reducible first | exact HB.out | apply bA_ | apply bN_ | apply bD_) | exact HB.out)⟩⟩
                 ·
                  rw [if_neg c27] at H; exact absurd H (by simp)
                ·
                 rw [if_neg c26] at H; exact absurd H (by simp)
               ·
                rw [if_neg c25] at H; have c25b0 : decide (x13_3 ≤ a2) = false := decide_eq_false c25; clear c25; obtain ⟨y521, hy521⟩ : ∃ y_ : List (List Int), y_ = (([x12_3] : List (List Int))) := ⟨_, rfl⟩
                replace H : (if y521.length + x9_2.length < 5864062014805 then (spec_l03Table.l1 k3 l0 a1 a2 (y521 ++ x9_2) (wrap64 (x10_2 - 1))) else (none)) = some r := by first | (rw [hy521]; with_reducible exact H) | (have H2_ := (Option.bind_some _ _).symm.trans H; rw [hy521]; with_reducible exact H2_) | (have H2_ := (Option.bind_some _ _).symm.trans H; with_reducible exact H2_) | with_reducible exact H | (rw [hy521]; exact H) | exact H
                have Ny521 := am_ hy521; clear hy521
                by_cases c55 : y521.length + x9_2.length < 5864062014805
                ·
                 rw [if_pos c55] at H; have LMc55 := am_ c55; clear c55; obtain ⟨y524, hy524⟩ : ∃ y_ : List (List Int), y_ = (y521 ++ x9_2) := ⟨_, rfl⟩
                 replace H : (spec_l03Table.l1 k3 l0 a1 a2 y524 (wrap64 (x10_2 - 1))) = some r := by first | (rw [hy524]; with_reducible exact H) | (have H2_ := (Option.bind_some _ _).symm.trans H; rw [hy524]; with_reducible exact H2_) | (have H2_ := (Option.bind_some _ _).symm.trans H; with_reducible exact H2_) | with_reducible exact H | (rw [hy524]; exact H) | exact H
                 have Ny524 := am_ hy524; clear hy524; have H' := am_ H; clear H; obtain ⟨Ao56, co56, eo56⟩ := Kd.R_slice HO_12.out; subst eo56
                 go_wp2_with (first | ((with_reducible refine gate_dst (N := 108) rfl ?_); refine Kd.N_lit (Kd.slice 2 (Kd.int .i64)) _ 22 ?hg (N' := 108) ?hd (xs := ([x12_3] : List (List Int))) (inner := [.slice Ao56 x12_3.length co56]) (ok := (fun k_ => (w.heap.size ≤ k_) ∧ some k_ ≠ (u9 : Value).ownBlock)) (okp := (fun k_ => (w.heap.size ≤ k_) ∧ some k_ ≠ (u9 : Value).ownBlock)) ?hr ?hp (fun _ hk => hk) ((show ∀ k_, wr.heap.size ≤ k_ → (fun k_ => (w.heap.size ≤ k_) ∧ some k_ ≠ (u9 : Value).ownBlock) k_ from fun k_ hk => ⟨(Nat.le_trans (below_size (by repeat (first | (with_reducible first | exact HB.out | apply bA_ | apply bN_ | apply bD_) | exact HB.out))) hk), Kd.fresh' (Kd.N_lt (by (with_reducible repeat (first | apply Kd.N_alloc | apply Kd.N_drewN | apply Kd.N_drew)); exact HO_9.out)) k_ hk⟩) _ (Nat.le_refl _)) (Below.refl _ _) (Nat.le_refl _) (by simp) ?_; (case hd => rfl); (case hg => rfl); (case hr => first | (go_simp; done) | (go_simp; rfl)); (case hp => exact (Reps.one (show Kd.FK (Kd.slice 2 (Kd.int .i64)) _ _ x12_3 [.slice Ao56 x12_3.length co56] from (Kd.FK_slice_mk (Kd.R_reads' (Kd.R_mono (ok' := (fun k_ => (w.heap.size ≤ k_) ∧ some k_ ≠ (u9 : Value).ownBlock)) (Kd.R_apart' (HO_12.out) (Kd.N_typed HO_9.out) (by decide)) (fun k_ hk => ⟨hk.1, hk.2⟩))).2.1 (Kd.R_F (Kd.R_mono (ok' := (fun k_ => (w.heap.size ≤ k_) ∧ some k_ ≠ (u9 : Value).ownBlock)) (Kd.R_apart' (HO_12.out) (Kd.N_typed HO_9.out) (by decide)) (fun k_ hk => ⟨hk.1, hk.2⟩))))) (Reps.none _ _))); intro v522 w57 ho58 hb hg_ hnew_; clear hg_ hnew_; (first | rw [← Ny521.out] at ho58 | (simp only [Int.reduceToNat] at ho58; rw [← Ny521.out] at ho58)); have n0_ := am_ (Kd.N_elder' (by (with_reducible repeat (first | apply Kd.N_alloc | apply Kd.N_drewN | apply Kd.N_drew)); exact HO_9.out) (Kd.N_base ho58) hb); have n1_ := am_ (Kd.N_lower ho58 (below_size (by repeat (first | (with_reducible first | exact HB.out | apply bA_ | apply bN_ | apply bD_) | exact HB.out)))); have n2_ := am_ (bT_ (by repeat (first | (with_reducible first | exact HB.out | apply bA_ | apply bN_ | apply bD_) | exact HB.out)) hb); clear HO_9; clear HB; clear HO_12; have HO_9 := n0_; have HO523 := n1_; have HB := n2_; clear n0_ n1_ n2_; clear hb ho58; obtain ⟨Ao60, co60, eo60⟩ := Kd.N_slice HO_9.out; subst eo60) | ((with_reducible refine gate_builtin (b := .append) (xs := #[.tmp 108, .tmp 109]) rfl ?_); at_builtin; refine Kd.N_append_rows (Kd.slice 2 (Kd.int .i64)) (w0 := w) w.heap.size rfl (.tmp 108) (.tmp 109) 29 22 (.slice none 0 0) 24 rfl Try.underlying29 info22 rfl (by decide) (by omega) v522 y521 x9_2 _ _ _ (fun k_ => (w.heap.size ≤ k_)) (fun k_ => ((fun k_ => (w.heap.size ≤ k_))) k_ ∧ some k_ ≠ (v522 : Value).ownBlock) rfl rfl ?aO ?aR (fun _ hk => hk) ?aF ?aB ?aS ?aL ?_; (case aR => exact (by skip; exact Kd.N_F (Kd.N_mono (ok' := (fun k_ => ((fun k_ => (w.heap.size ≤ k_))) k_ ∧ some k_ ≠ (v522 : Value).ownBlock)) (HO_9.out) (fun k_ hk => ⟨hk.1.1, hk.2⟩)))); (case aB => exact (by repeat (first | (with_reducible first | exact HB.out | apply bA_ | apply bN_ | apply bD_) | exact HB.out))); (case aF => exact (fun k_ hk => (Nat.le_trans (below_size (by repeat (first | (with_reducible first | exact HB.out | apply bA_ | apply bN_ | apply bD_) | exact HB.out))) hk))); (case aO => exact (by (with_reducible repeat (first | apply Kd.N_alloc | apply Kd.N_drewN | apply Kd.N_drew)); exact Kd.N_mono HO523.out (fun _ hk => hk.1))); (case aS => exact (below_size (by repeat (first | (with_reducible first | exact HB.out | apply bA_ | apply bN_ | apply bD_) | exact HB.out)))); (case aL => have := LMc55.out; omega); intro v525 w59 ho hb hg hat; rw [← Ny524.out] at ho; have n0_ := am_ (Kd.N_afterv (ok := (fun k_ => (w.heap.size ≤ k_))) (by (with_reducible repeat (first | apply Kd.N_alloc | apply Kd.N_drewN | apply Kd.N_drew)); exact Kd.N_mono HO_9.out (fun _ hk => ⟨hk.1.1, hk.2⟩)) hg hat); have n1_ := am_ (hb); have n2_ := am_ (ho); clear HO_9; clear HB; clear HO523; have HO_9 := n0_; have HB := n1_; have HO526 := n2_; clear n0_ n1_ n2_; clear ho hb hg hat))
                 go_roundg k3
                 case measure => have := HK1.out; have := HK2.out; have := HK3.out; omega
                 case rel => exact ⟨(y524), (wrap64 (x10_2 - 1)), (by first | rfl | (simp; done) | (simp [*]; done)), H', ⟨by have := HK1.out; have := HK2.out; have := HK3.out; omega⟩, ⟨by (with_reducible repeat (first | apply Kd.N_alloc | apply Kd.N_drewN | apply Kd.N_drew)); exact HO526.out⟩, ⟨by repeat (first | (with_reducible first | exact HB.out | apply bA_ | apply bN_ | apply bD_) | exact HB.out)⟩⟩
                ·
                 rw [if_neg c55] at H; exact absurd H (by simp)
            ·
             rw [if_neg c22] at H; exact absurd H (by simp)
           ·
            rw [if_neg c21] at H; exact absurd H (by simp)
          ·
           rw [if_neg c20] at H; exact absurd H (by simp)
         ·
          rw [if_neg c19] at H; exact absurd H (by simp)
        ·
         rw [if_neg c18] at H; have c18b0 : decide (0 ≤ x10_2) = false := decide_eq_false c18; clear c18; obtain rfl := Option.some.inj H
         go_wp2
         go_ret
         exact ⟨_, by first | rfl | (simp [errW_none, errW_some] <;> rfl) | (simp only [← hji4]; first | rfl | (simp [errW_none, errW_some] <;> rfl)) | (simp [*, errW_none, errW_some] <;> rfl), by (with_reducible repeat (first | apply Kd.N_alloc | apply Kd.N_drewN | apply Kd.N_drew)); exact HO_9.out, by repeat (first | (with_reducible first | exact HB.out | apply bA_ | apply bN_ | apply bD_) | exact HB.out)⟩
  ·
   rw [if_neg c6] at H; exact absurd H (by simp)
 ·
  rw [if_neg c5] at H; exact absurd H (by simp)
end Go.Proofs.Ytpbobnpmiafbbaa.Q
