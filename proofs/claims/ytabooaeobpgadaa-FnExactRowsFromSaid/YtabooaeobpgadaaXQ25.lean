-- By a program of this session's, out of the translation (with the kit's print). Lean checks it.
import Derived.Test.YtabooaeobpgadaaXQ0
import Derived.Test.YtabooaeobpgadaaXQ24
namespace Go.Proofs.Ytabooaeobpgadaa.Q
open Go.RowKit Go.Proofs.YtabooaeobpgadaaW.PrintWords Go.Proofs.YtabooaeobpgadaaW.PrintLast Go.Proofs.YtabooaeobpgadaaW.PrintMore
attribute [local go_sem] max2_int min2_int max_two min_two max_three min_three max_four min_four
set_option linter.unusedVariables false
set_option linter.unusedSimpArgs false
mutual
def spec_l03Fill.l0 : Nat → List (S66) → Int → Int → List (List Int) → Int → List Int → Int → Option (List Int × Int × Bool)
 | 0, _, _, _, _, _, _, _ => none
 | k + 1, x0, x2, x9, x10, x11, x12, x13 => if x13 < (x0.length : Int) then (if 0 ≤ x13 then (spec_l03Fill.l1 k x0 x2 x9 x10 x11 x12 x13 (wrap64 ((wrap64 ((rd_T66 x0 x13).f0)) + x2)) 0) else (none)) else (some (x12, x11, true))
def spec_l03Fill.l1 : Nat → List (S66) → Int → Int → List (List Int) → Int → List Int → Int → Int → Int → Option (List Int × Int × Bool)
 | 0, _, _, _, _, _, _, _, _, _ => none
 | k + 1, x0, x2, x9, x10, x11, x12, x13, x14, x15 => if (wrap64 (x15 * x14)) > x9 then (spec_l03Fill.l1 k x0 x2 x9 x10 x11 x12 x13 x14 (wrap64 (x15 + 1))) else (if 0 ≤ (wrap64 (x13 + 1)) then (if (wrap64 (x13 + 1)) < (x10.length : Int) then (if 0 ≤ (wrap64 (x9 - (wrap64 (x15 * x14)))) then (if (wrap64 (x9 - (wrap64 (x15 * x14)))) < ((rd_L1 x10 (wrap64 (x13 + 1))).length : Int) then (if (rd (rd_L1 x10 (wrap64 (x13 + 1))) (wrap64 (x9 - (wrap64 (x15 * x14))))) < 0 then (spec_l03Fill.l1 k x0 x2 x9 x10 x11 x12 x13 x14 (wrap64 (x15 + 1))) else (if 0 ≤ x13 then (if x13 < (x10.length : Int) then (if 0 ≤ x9 then (if x9 < ((rd_L1 x10 x13).length : Int) then (if (wrap64 ((rd (rd_L1 x10 (wrap64 (x13 + 1))) (wrap64 (x9 - (wrap64 (x15 * x14))))) + x15)) = (rd (rd_L1 x10 x13) x9) then (if x12.length < 17592186044416 then (spec_l03Fill.l0 k x0 x2 (wrap64 (x9 - (wrap64 (x15 * x14)))) x10 x11 (x12 ++ [x15]) (wrap64 (x13 + 1))) else (none)) else (spec_l03Fill.l1 k x0 x2 x9 x10 x11 x12 x13 x14 (wrap64 (x15 + 1)))) else (none)) else (none)) else (none)) else (none))) else (none)) else (none)) else (none)) else (none))
end
def spec_l03Fill.f (k : Nat) (l0 : List (S66)) (a1 : Int) (a2 : Int) : Option (List Int × Int × Bool) := (spec_l03Table.f k l0 a2 (wrap64 (a1 + a2))).bind fun t753 => (if 0 < (t753.length : Int) then (if 0 ≤ (wrap64 (a1 + a2)) then (if (wrap64 (a1 + a2)) < ((rd_L1 t753 0).length : Int) then ((some (([] : List Int) : List Int)).bind fun y758 => (if (rd (rd_L1 t753 0) (wrap64 (a1 + a2))) < 0 then (some (y758, 0, false)) else (spec_l03Fill.l0 k l0 a2 (wrap64 (a1 + a2)) t753 (rd (rd_L1 t753 0) (wrap64 (a1 + a2))) y758 0))) else (none)) else (none)) else (none))
theorem spec_l03Fill.mono_l : ∀ k, (∀ y0 y1 y2 y3 y4 y5 y6, LeO (spec_l03Fill.l0 k y0 y1 y2 y3 y4 y5 y6) (spec_l03Fill.l0 (k + 1) y0 y1 y2 y3 y4 y5 y6)) ∧ (∀ y0 y1 y2 y3 y4 y5 y6 y7 y8, LeO (spec_l03Fill.l1 k y0 y1 y2 y3 y4 y5 y6 y7 y8) (spec_l03Fill.l1 (k + 1) y0 y1 y2 y3 y4 y5 y6 y7 y8))
 | 0 => ⟨fun _ _ _ _ _ _ _ r h => by simp [spec_l03Fill.l0] at h, fun _ _ _ _ _ _ _ _ _ r h => by simp [spec_l03Fill.l1] at h⟩
 | k + 1 => by
  obtain ⟨ih0, ih1⟩ := spec_l03Fill.mono_l k
  refine ⟨?_, ?_⟩
  ·
   intro y0 y1 y2 y3 y4 y5 y6
   unfold spec_l03Fill.l0
   repeat' first
   | (with_reducible exact ih0 _ _ _ _ _ _ _)
   | (with_reducible exact ih1 _ _ _ _ _ _ _ _ _)
   | (with_reducible exact spec_l03Table.mono _ _ _ _)
   | (with_reducible exact LeO.refl _)
   | (with_reducible exact LeO.none _)
   | (with_reducible refine LeO.ite ?_ ?_)
   | (with_reducible refine LeO.bind ?_ (fun _ => ?_))
   | exact ih0 _ _ _ _ _ _ _
   | exact ih1 _ _ _ _ _ _ _ _ _
   | exact spec_l03Table.mono _ _ _ _
   | exact LeO.none _
   | refine LeO.ite ?_ ?_
   | refine LeO.bind ?_ (fun _ => ?_)
  ·
   intro y0 y1 y2 y3 y4 y5 y6 y7 y8
   unfold spec_l03Fill.l1
   repeat' first
   | (with_reducible exact ih0 _ _ _ _ _ _ _)
   | (with_reducible exact ih1 _ _ _ _ _ _ _ _ _)
   | (with_reducible exact spec_l03Table.mono _ _ _ _)
   | (with_reducible exact LeO.refl _)
   | (with_reducible exact LeO.none _)
   | (with_reducible refine LeO.ite ?_ ?_)
   | (with_reducible refine LeO.bind ?_ (fun _ => ?_))
   | exact ih0 _ _ _ _ _ _ _
   | exact ih1 _ _ _ _ _ _ _ _ _
   | exact spec_l03Table.mono _ _ _ _
   | exact LeO.none _
   | refine LeO.ite ?_ ?_
   | refine LeO.bind ?_ (fun _ => ?_)
theorem spec_l03Fill.mono : ∀ a0 a1 a2 k, LeO (spec_l03Fill.f k a0 a1 a2) (spec_l03Fill.f (k + 1) a0 a1 a2) := by
 intro a0 a1 a2 k
 obtain ⟨ih0, ih1⟩ := spec_l03Fill.mono_l k
 unfold spec_l03Fill.f
 repeat' first
   | (with_reducible exact ih0 _ _ _ _ _ _ _)
   | (with_reducible exact ih1 _ _ _ _ _ _ _ _ _)
   | (with_reducible exact spec_l03Table.mono _ _ _ _)
   | (with_reducible exact LeO.refl _)
   | (with_reducible exact LeO.none _)
   | (with_reducible refine LeO.ite ?_ ?_)
   | (with_reducible refine LeO.bind ?_ (fun _ => ?_))
   | exact ih0 _ _ _ _ _ _ _
   | exact ih1 _ _ _ _ _ _ _ _ _
   | exact spec_l03Table.mono _ _ _ _
   | exact LeO.none _
   | refine LeO.ite ?_ ?_
   | refine LeO.bind ?_ (fun _ => ?_)
set_option maxHeartbeats 8000000 in
set_option maxRecDepth 100000 in
theorem spec_l03Fill.calls (k : Nat) (A0 : Option Addr) (c0 : Nat) (l0 : List (S66)) (a1 : Int) (a2 : Int) (r1 : List Int) (r2 : Int) (r3 : Bool) (w : World) (hr0 : Kd.C k66 w A0 l0.length l0) (hc0 : l0.length ≤ c0) (h : spec_l03Fill.f k l0 a1 a2 = some (r1, r2, r3)) :
  Calls Try.prog 75 #[.slice A0 l0.length c0, .int .i64 a1, .int .i64 a2] w fun e w' => ∃ v0_ : Value, e = .returned (.tuple #[v0_, .int .i64 r2, .bool r3]) ∧ Kd.R (Kd.int .i64) 2 w' w.heap.size (fun _ => True) v0_ r1 ∧ Below w.heap.size w w' := by
 have HR0 := Aside0.mk hr0
 have HC0 := Aside0.mk hc0
 clear hr0 hc0
 have HB := Aside0.mk (Below.refl w.heap.size w)
 have H : ((spec_l03Table.f k l0 a2 (wrap64 (a1 + a2))).bind fun t753 => (if 0 < (t753.length : Int) then (if 0 ≤ (wrap64 (a1 + a2)) then (if (wrap64 (a1 + a2)) < ((rd_L1 t753 0).length : Int) then ((some (([] : List Int) : List Int)).bind fun y758 => (if (rd (rd_L1 t753 0) (wrap64 (a1 + a2))) < 0 then (some (y758, 0, false)) else (spec_l03Fill.l0 k l0 a2 (wrap64 (a1 + a2)) t753 (rd (rd_L1 t753 0) (wrap64 (a1 + a2))) y758 0))) else (none)) else (none)) else (none))) = some (r1, r2, r3) := h
 clear h
 replace H := Option.bind_eq_some_iff.mp H
 obtain ⟨t753, A40, H⟩ := H
 replace H : (if 0 < (t753.length : Int) then (if 0 ≤ (wrap64 (a1 + a2)) then (if (wrap64 (a1 + a2)) < ((rd_L1 t753 0).length : Int) then ((some (([] : List Int) : List Int)).bind fun y758 => (if (rd (rd_L1 t753 0) (wrap64 (a1 + a2))) < 0 then (some (y758, 0, false)) else (spec_l03Fill.l0 k l0 a2 (wrap64 (a1 + a2)) t753 (rd (rd_L1 t753 0) (wrap64 (a1 + a2))) y758 0))) else (none)) else (none)) else (none)) = some (r1, r2, r3) := H
 have A4 := Aside0.mk A40
 clear A40
 by_cases c5 : 0 < (t753.length : Int)
 ·
  rw [if_pos c5] at H
  have c5b0 : decide (0 < (t753.length : Int)) = true := decide_eq_true c5
  have c5b1 : decide (0 < t753.length) = true := decide_eq_true (by omega)
  clear c5
  obtain ⟨ji6, hji6⟩ : ∃ j_ : Int, (wrap64 (a1 + a2)) = j_ := ⟨_, rfl⟩
  replace H : (if 0 ≤ (ji6) then (if (ji6) < ((rd_L1 t753 0).length : Int) then ((some (([] : List Int) : List Int)).bind fun y758 => (if (rd (rd_L1 t753 0) (ji6)) < 0 then (some (y758, 0, false)) else (spec_l03Fill.l0 k l0 a2 ji6 t753 (rd (rd_L1 t753 0) (ji6)) y758 0))) else (none)) else (none)) = some (r1, r2, r3) := by first | (rw [hji6] at H; exact H) | (simp only [hji6] at H ⊢; exact H)
  (try rw [hji6] at A4)
  have hji6w : (IntKind.i64.wrap (a1 + a2)) = ji6 := (i64_w _).trans hji6
  by_cases c7 : 0 ≤ (ji6)
  ·
   rw [if_pos c7] at H
   have c7b0 : decide (0 ≤ (ji6)) = true := decide_eq_true c7
   clear c7
   by_cases c8 : (ji6) < ((rd_L1 t753 0).length : Int)
   ·
    rw [if_pos c8] at H
    have c8b0 : decide ((ji6) < ((rd_L1 t753 0).length : Int)) = true := decide_eq_true c8
    clear c8
    obtain ⟨y758, hy758⟩ : ∃ y_ : List Int, y_ = (([] : List Int)) := ⟨_, rfl⟩
    replace H : (if (rd (rd_L1 t753 0) (ji6)) < 0 then (some (y758, 0, false)) else (spec_l03Fill.l0 k l0 a2 ji6 t753 (rd (rd_L1 t753 0) (ji6)) y758 0)) = some (r1, r2, r3) := by first | (rw [hy758]; with_reducible exact H) | (have H2_ := (Option.bind_some _ _).symm.trans H; rw [hy758]; with_reducible exact H2_) | (have H2_ := (Option.bind_some _ _).symm.trans H; with_reducible exact H2_) | with_reducible exact H | (rw [hy758]; exact H) | exact H
    have Ny758 := Aside0.mk hy758
    clear hy758
    by_cases c9 : (rd (rd_L1 t753 0) (ji6)) < 0
    ·
     rw [if_pos c9] at H
     have c9b0 : decide ((rd (rd_L1 t753 0) (ji6)) < 0) = true := decide_eq_true c9
     clear c9
     simp only [Option.some.injEq, Prod.mk.injEq] at H
     obtain ⟨rfl, rfl, rfl⟩ := H
     go_enter Try.func75, Try.ntmps75
     go_wp2_with (first | (go_at_call 96; (with_reducible refine (spec_l03Table.calls k _ _ l0 a2 ji6 t753 _ ?side1 ?side2 A4.out).mono ?_); (case side1 => repeat (first | exact HR0.out | (with_reducible refine Kd.C_alloc ?_ _) | (with_reducible refine Kd.C_drewN ?_ _) | (with_reducible refine Kd.C_drew ?_))); (case side2 => exact HC0.out); rintro e w10 ⟨v754, rfl, ho0, hb⟩; have n0_ := Aside0.mk (Kd.N_lower (Kd.N_mono (ok' := fun k_ => True) ho0 (fun k_ hk_ => trivial)) (below_size (by repeat (first | (with_reducible first | exact HB.out | apply below_alloc | apply pw_below_drewN | apply below_drew1) | exact HB.out)))); have n1_ := Aside0.mk (below_step (by repeat (first | (with_reducible first | exact HB.out | apply below_alloc | apply pw_below_drewN | apply below_drew1) | exact HB.out)) hb); clear HB; have HO755 := n0_; have HB := n1_; clear n0_ n1_; (try clear hb); (try clear hb2); (try clear hk); (try clear hi); (try clear ho0); obtain ⟨Ao11, co11, eo11⟩ := Kd.N_slice HO755.out; subst eo11; have p756 : 0 ≤ (0 : Int) := (by omega); have q756 : 0 < (t753.length : Int) := of_decide_eq_true (by first | (with_reducible assumption) | assumption); obtain ⟨ad756, A756_0, c756_0, e756, hx756_0, hl756_0, hi756_0⟩ := at_L1 (Kd.N_reads' HO755.out).2.2 0 p756 q756; cases e756; obtain ⟨ce756, hce756, hMe756, hcc756⟩ := Kd.N_get HO755.out [] 0 p756 (by first | exact q756 | exact of_decide_eq_true (by first | (with_reducible assumption) | assumption) | (have e_ := (Kd.N_reads' HO755.out).1; omega)); obtain ⟨ua756_0, uc756_0, rfl, ul756_0, ge756_0⟩ := Kd.FK_slice_open hMe756; have hv756_0 := hcc756 0 _ rfl; rw [Nat.add_zero, show ((Kd.slice 2 (Kd.int .i64))).sz = 1 from rfl, Nat.mul_one] at hv756_0; replace hv756_0 := Option.some.inj (hv756_0.symm.trans hx756_0); injection hv756_0 with hva_ hvn_ hvc_; rw [hva_] at ge756_0; rw [hvc_] at ul756_0; have HL756_0 := Aside0.mk (show Kd.V (Kd.int .i64) 2 _ w.heap.size _ _ (rd_L1 t753 0) from Kd.V_mk ul756_0 ge756_0); clear hva_ hvn_ hvc_ ge756_0 ul756_0; clear hcc756 hce756; have qi756 : (0 < t753.length) = True := eq_true (by omega); (try rw [show ((0 : Int)).toNat = 0 from rfl] at hx756_0); (try rw [Addr.add_zero'] at hx756_0); have HR756_0 := Aside0.mk hi756_0; have HC756_0 := Aside0.mk hl756_0; clear hi756_0 hl756_0; replace p756 := eq_true p756; replace q756 := eq_true q756; have p757 : 0 ≤ ((ji6) : Int) := of_decide_eq_true (by first | (with_reducible assumption) | assumption); have q757 : (ji6) < ((rd_L1 t753 0).length : Int) := of_decide_eq_true (by first | (with_reducible assumption) | assumption); obtain ⟨ad757, e757, hx757_0⟩ := Kd.at_int (by repeat (first | (with_reducible exact HR756_0.out) | (with_reducible refine Kd.C_alloc ?_ _) | (with_reducible refine Kd.C_drewN ?_ _) | (with_reducible refine Kd.C_drew ?_) | exact HR756_0.out)) (ji6) p757 q757; cases e757; replace p757 := eq_true p757; replace q757 := eq_true q757) | ((with_reducible refine gate_dst (N := 29) rfl ?_); refine Kd.R_lit (Kd.int .i64) _ 2 ?hg (N := 29) ?hd (xs := ([] : List Int)) (inner := []) (ok := fun _ => True) (okp := fun _ => True) ?hr ?hp (fun _ hk => hk) trivial (Below.refl _ _) (Nat.le_refl _) (by simp) ?_; (case hd => rfl); (case hg => rfl); (case hr => first | (go_simp; done) | (go_simp; rfl)); (case hp => exact (Reps.none _ _)); intro v759 w12 ho13 hb hg_ hnew_; clear hg_ hnew_; (first | rw [← Ny758.out] at ho13 | (simp only [Int.reduceToNat] at ho13; rw [← Ny758.out] at ho13)); have n0_ := Aside0.mk (Kd.N_elder' (by (with_reducible repeat (first | apply Kd.N_alloc | apply Kd.N_drewN | apply Kd.N_drew)); exact HO755.out) (Kd.R_base ho13) hb); have n1_ := Aside0.mk (Kd.V_elder' (by (with_reducible repeat (first | apply Kd.V_alloc | apply Kd.V_drewN | apply Kd.V_drew)); exact HL756_0.out) (Kd.R_base ho13) hb); have n2_ := Aside0.mk (Kd.R_lower ho13 (below_size (by repeat (first | (with_reducible first | exact HB.out | apply below_alloc | apply pw_below_drewN | apply below_drew1) | exact HB.out)))); have n3_ := Aside0.mk (Kd.C_below (by repeat (first | (with_reducible exact HR756_0.out) | (with_reducible refine Kd.C_alloc ?_ _) | (with_reducible refine Kd.C_drewN ?_ _) | (with_reducible refine Kd.C_drew ?_) | exact HR756_0.out)) hb); have n4_ := Aside0.mk (below_step (by repeat (first | (with_reducible first | exact HB.out | apply below_alloc | apply pw_below_drewN | apply below_drew1) | exact HB.out)) hb); clear HO755; clear HL756_0; clear HR756_0; clear HB; have HO755 := n0_; have HL756_0 := n1_; have HO760 := n2_; have HR756_0 := n3_; have HB := n4_; clear n0_ n1_ n2_ n3_ n4_; clear hb ho13))
     repeat (go_quiet (first | (go_at_call 96; (with_reducible refine (spec_l03Table.calls k _ _ l0 a2 ji6 t753 _ ?side1 ?side2 A4.out).mono ?_); (case side1 => repeat (first | exact HR0.out | (with_reducible refine Kd.C_alloc ?_ _) | (with_reducible refine Kd.C_drewN ?_ _) | (with_reducible refine Kd.C_drew ?_))); (case side2 => exact HC0.out); rintro e w10 ⟨v754, rfl, ho0, hb⟩; have n0_ := Aside0.mk (Kd.N_lower (Kd.N_mono (ok' := fun k_ => True) ho0 (fun k_ hk_ => trivial)) (below_size (by repeat (first | (with_reducible first | exact HB.out | apply below_alloc | apply pw_below_drewN | apply below_drew1) | exact HB.out)))); have n1_ := Aside0.mk (below_step (by repeat (first | (with_reducible first | exact HB.out | apply below_alloc | apply pw_below_drewN | apply below_drew1) | exact HB.out)) hb); clear HB; have HO755 := n0_; have HB := n1_; clear n0_ n1_; (try clear hb); (try clear hb2); (try clear hk); (try clear hi); (try clear ho0); obtain ⟨Ao11, co11, eo11⟩ := Kd.N_slice HO755.out; subst eo11; have p756 : 0 ≤ (0 : Int) := (by omega); have q756 : 0 < (t753.length : Int) := of_decide_eq_true (by first | (with_reducible assumption) | assumption); obtain ⟨ad756, A756_0, c756_0, e756, hx756_0, hl756_0, hi756_0⟩ := at_L1 (Kd.N_reads' HO755.out).2.2 0 p756 q756; cases e756; obtain ⟨ce756, hce756, hMe756, hcc756⟩ := Kd.N_get HO755.out [] 0 p756 (by first | exact q756 | exact of_decide_eq_true (by first | (with_reducible assumption) | assumption) | (have e_ := (Kd.N_reads' HO755.out).1; omega)); obtain ⟨ua756_0, uc756_0, rfl, ul756_0, ge756_0⟩ := Kd.FK_slice_open hMe756; have hv756_0 := hcc756 0 _ rfl; rw [Nat.add_zero, show ((Kd.slice 2 (Kd.int .i64))).sz = 1 from rfl, Nat.mul_one] at hv756_0; replace hv756_0 := Option.some.inj (hv756_0.symm.trans hx756_0); injection hv756_0 with hva_ hvn_ hvc_; rw [hva_] at ge756_0; rw [hvc_] at ul756_0; have HL756_0 := Aside0.mk (show Kd.V (Kd.int .i64) 2 _ w.heap.size _ _ (rd_L1 t753 0) from Kd.V_mk ul756_0 ge756_0); clear hva_ hvn_ hvc_ ge756_0 ul756_0; clear hcc756 hce756; have qi756 : (0 < t753.length) = True := eq_true (by omega); (try rw [show ((0 : Int)).toNat = 0 from rfl] at hx756_0); (try rw [Addr.add_zero'] at hx756_0); have HR756_0 := Aside0.mk hi756_0; have HC756_0 := Aside0.mk hl756_0; clear hi756_0 hl756_0; replace p756 := eq_true p756; replace q756 := eq_true q756; have p757 : 0 ≤ ((ji6) : Int) := of_decide_eq_true (by first | (with_reducible assumption) | assumption); have q757 : (ji6) < ((rd_L1 t753 0).length : Int) := of_decide_eq_true (by first | (with_reducible assumption) | assumption); obtain ⟨ad757, e757, hx757_0⟩ := Kd.at_int (by repeat (first | (with_reducible exact HR756_0.out) | (with_reducible refine Kd.C_alloc ?_ _) | (with_reducible refine Kd.C_drewN ?_ _) | (with_reducible refine Kd.C_drew ?_) | exact HR756_0.out)) (ji6) p757 q757; cases e757; replace p757 := eq_true p757; replace q757 := eq_true q757) | ((with_reducible refine gate_dst (N := 29) rfl ?_); refine Kd.R_lit (Kd.int .i64) _ 2 ?hg (N := 29) ?hd (xs := ([] : List Int)) (inner := []) (ok := fun _ => True) (okp := fun _ => True) ?hr ?hp (fun _ hk => hk) trivial (Below.refl _ _) (Nat.le_refl _) (by simp) ?_; (case hd => rfl); (case hg => rfl); (case hr => first | (go_simp; done) | (go_simp; rfl)); (case hp => exact (Reps.none _ _)); intro v759 w12 ho13 hb hg_ hnew_; clear hg_ hnew_; (first | rw [← Ny758.out] at ho13 | (simp only [Int.reduceToNat] at ho13; rw [← Ny758.out] at ho13)); have n0_ := Aside0.mk (Kd.N_elder' (by (with_reducible repeat (first | apply Kd.N_alloc | apply Kd.N_drewN | apply Kd.N_drew)); exact HO755.out) (Kd.R_base ho13) hb); have n1_ := Aside0.mk (Kd.V_elder' (by (with_reducible repeat (first | apply Kd.V_alloc | apply Kd.V_drewN | apply Kd.V_drew)); exact HL756_0.out) (Kd.R_base ho13) hb); have n2_ := Aside0.mk (Kd.R_lower ho13 (below_size (by repeat (first | (with_reducible first | exact HB.out | apply below_alloc | apply pw_below_drewN | apply below_drew1) | exact HB.out)))); have n3_ := Aside0.mk (Kd.C_below (by repeat (first | (with_reducible exact HR756_0.out) | (with_reducible refine Kd.C_alloc ?_ _) | (with_reducible refine Kd.C_drewN ?_ _) | (with_reducible refine Kd.C_drew ?_) | exact HR756_0.out)) hb); have n4_ := Aside0.mk (below_step (by repeat (first | (with_reducible first | exact HB.out | apply below_alloc | apply pw_below_drewN | apply below_drew1) | exact HB.out)) hb); clear HO755; clear HL756_0; clear HR756_0; clear HB; have HO755 := n0_; have HL756_0 := n1_; have HO760 := n2_; have HR756_0 := n3_; have HB := n4_; clear n0_ n1_ n2_ n3_ n4_; clear hb ho13)); try go_wp2_with (first | (go_at_call 96; (with_reducible refine (spec_l03Table.calls k _ _ l0 a2 ji6 t753 _ ?side1 ?side2 A4.out).mono ?_); (case side1 => repeat (first | exact HR0.out | (with_reducible refine Kd.C_alloc ?_ _) | (with_reducible refine Kd.C_drewN ?_ _) | (with_reducible refine Kd.C_drew ?_))); (case side2 => exact HC0.out); rintro e w10 ⟨v754, rfl, ho0, hb⟩; have n0_ := Aside0.mk (Kd.N_lower (Kd.N_mono (ok' := fun k_ => True) ho0 (fun k_ hk_ => trivial)) (below_size (by repeat (first | (with_reducible first | exact HB.out | apply below_alloc | apply pw_below_drewN | apply below_drew1) | exact HB.out)))); have n1_ := Aside0.mk (below_step (by repeat (first | (with_reducible first | exact HB.out | apply below_alloc | apply pw_below_drewN | apply below_drew1) | exact HB.out)) hb); clear HB; have HO755 := n0_; have HB := n1_; clear n0_ n1_; (try clear hb); (try clear hb2); (try clear hk); (try clear hi); (try clear ho0); obtain ⟨Ao11, co11, eo11⟩ := Kd.N_slice HO755.out; subst eo11; have p756 : 0 ≤ (0 : Int) := (by omega); have q756 : 0 < (t753.length : Int) := of_decide_eq_true (by first | (with_reducible assumption) | assumption); obtain ⟨ad756, A756_0, c756_0, e756, hx756_0, hl756_0, hi756_0⟩ := at_L1 (Kd.N_reads' HO755.out).2.2 0 p756 q756; cases e756; obtain ⟨ce756, hce756, hMe756, hcc756⟩ := Kd.N_get HO755.out [] 0 p756 (by first | exact q756 | exact of_decide_eq_true (by first | (with_reducible assumption) | assumption) | (have e_ := (Kd.N_reads' HO755.out).1; omega)); obtain ⟨ua756_0, uc756_0, rfl, ul756_0, ge756_0⟩ := Kd.FK_slice_open hMe756; have hv756_0 := hcc756 0 _ rfl; rw [Nat.add_zero, show ((Kd.slice 2 (Kd.int .i64))).sz = 1 from rfl, Nat.mul_one] at hv756_0; replace hv756_0 := Option.some.inj (hv756_0.symm.trans hx756_0); injection hv756_0 with hva_ hvn_ hvc_; rw [hva_] at ge756_0; rw [hvc_] at ul756_0; have HL756_0 := Aside0.mk (show Kd.V (Kd.int .i64) 2 _ w.heap.size _ _ (rd_L1 t753 0) from Kd.V_mk ul756_0 ge756_0); clear hva_ hvn_ hvc_ ge756_0 ul756_0; clear hcc756 hce756; have qi756 : (0 < t753.length) = True := eq_true (by omega); (try rw [show ((0 : Int)).toNat = 0 from rfl] at hx756_0); (try rw [Addr.add_zero'] at hx756_0); have HR756_0 := Aside0.mk hi756_0; have HC756_0 := Aside0.mk hl756_0; clear hi756_0 hl756_0; replace p756 := eq_true p756; replace q756 := eq_true q756; have p757 : 0 ≤ ((ji6) : Int) := of_decide_eq_true (by first | (with_reducible assumption) | assumption); have q757 : (ji6) < ((rd_L1 t753 0).length : Int) := of_decide_eq_true (by first | (with_reducible assumption) | assumption); obtain ⟨ad757, e757, hx757_0⟩ := Kd.at_int (by repeat (first | (with_reducible exact HR756_0.out) | (with_reducible refine Kd.C_alloc ?_ _) | (with_reducible refine Kd.C_drewN ?_ _) | (with_reducible refine Kd.C_drew ?_) | exact HR756_0.out)) (ji6) p757 q757; cases e757; replace p757 := eq_true p757; replace q757 := eq_true q757) | ((with_reducible refine gate_dst (N := 29) rfl ?_); refine Kd.R_lit (Kd.int .i64) _ 2 ?hg (N := 29) ?hd (xs := ([] : List Int)) (inner := []) (ok := fun _ => True) (okp := fun _ => True) ?hr ?hp (fun _ hk => hk) trivial (Below.refl _ _) (Nat.le_refl _) (by simp) ?_; (case hd => rfl); (case hg => rfl); (case hr => first | (go_simp; done) | (go_simp; rfl)); (case hp => exact (Reps.none _ _)); intro v759 w12 ho13 hb hg_ hnew_; clear hg_ hnew_; (first | rw [← Ny758.out] at ho13 | (simp only [Int.reduceToNat] at ho13; rw [← Ny758.out] at ho13)); have n0_ := Aside0.mk (Kd.N_elder' (by (with_reducible repeat (first | apply Kd.N_alloc | apply Kd.N_drewN | apply Kd.N_drew)); exact HO755.out) (Kd.R_base ho13) hb); have n1_ := Aside0.mk (Kd.V_elder' (by (with_reducible repeat (first | apply Kd.V_alloc | apply Kd.V_drewN | apply Kd.V_drew)); exact HL756_0.out) (Kd.R_base ho13) hb); have n2_ := Aside0.mk (Kd.R_lower ho13 (below_size (by repeat (first | (with_reducible first | exact HB.out | apply below_alloc | apply pw_below_drewN | apply below_drew1) | exact HB.out)))); have n3_ := Aside0.mk (Kd.C_below (by repeat (first | (with_reducible exact HR756_0.out) | (with_reducible refine Kd.C_alloc ?_ _) | (with_reducible refine Kd.C_drewN ?_ _) | (with_reducible refine Kd.C_drew ?_) | exact HR756_0.out)) hb); have n4_ := Aside0.mk (below_step (by repeat (first | (with_reducible first | exact HB.out | apply below_alloc | apply pw_below_drewN | apply below_drew1) | exact HB.out)) hb); clear HO755; clear HL756_0; clear HR756_0; clear HB; have HO755 := n0_; have HL756_0 := n1_; have HO760 := n2_; have HR756_0 := n3_; have HB := n4_; clear n0_ n1_ n2_ n3_ n4_; clear hb ho13)))
     go_ret3
     exact ⟨_, by first | rfl | (simp [errW_none, errW_some] <;> rfl) | (simp only [← hji6]; first | rfl | (simp [errW_none, errW_some] <;> rfl)) | (simp [*, errW_none, errW_some] <;> rfl), by (with_reducible repeat (first | apply Kd.R_alloc | apply Kd.R_drewN | apply Kd.R_drew)); exact HO760.out, by repeat (first | (with_reducible first | exact HB.out | apply below_alloc | apply pw_below_drewN | apply below_drew1) | exact HB.out)⟩
    ·
     rw [if_neg c9] at H
     have c9b0 : decide ((rd (rd_L1 t753 0) (ji6)) < 0) = false := decide_eq_false c9
     clear c9
     have H' := Aside0.mk H
     clear H
     go_enter Try.func75, Try.ntmps75
     go_wp2_with (first | (go_at_call 96; (with_reducible refine (spec_l03Table.calls k _ _ l0 a2 ji6 t753 _ ?side1 ?side2 A4.out).mono ?_); (case side1 => repeat (first | exact HR0.out | (with_reducible refine Kd.C_alloc ?_ _) | (with_reducible refine Kd.C_drewN ?_ _) | (with_reducible refine Kd.C_drew ?_))); (case side2 => exact HC0.out); rintro e w14 ⟨v754, rfl, ho0, hb⟩; have n0_ := Aside0.mk (Kd.N_lower (Kd.N_mono (ok' := fun k_ => True) ho0 (fun k_ hk_ => trivial)) (below_size (by repeat (first | (with_reducible first | exact HB.out | apply below_alloc | apply pw_below_drewN | apply below_drew1) | exact HB.out)))); have n1_ := Aside0.mk (below_step (by repeat (first | (with_reducible first | exact HB.out | apply below_alloc | apply pw_below_drewN | apply below_drew1) | exact HB.out)) hb); clear HB; have HO755 := n0_; have HB := n1_; clear n0_ n1_; (try clear hb); (try clear hb2); (try clear hk); (try clear hi); (try clear ho0); obtain ⟨Ao15, co15, eo15⟩ := Kd.N_slice HO755.out; subst eo15; have p756 : 0 ≤ (0 : Int) := (by omega); have q756 : 0 < (t753.length : Int) := of_decide_eq_true (by first | (with_reducible assumption) | assumption); obtain ⟨ad756, A756_0, c756_0, e756, hx756_0, hl756_0, hi756_0⟩ := at_L1 (Kd.N_reads' HO755.out).2.2 0 p756 q756; cases e756; obtain ⟨ce756, hce756, hMe756, hcc756⟩ := Kd.N_get HO755.out [] 0 p756 (by first | exact q756 | exact of_decide_eq_true (by first | (with_reducible assumption) | assumption) | (have e_ := (Kd.N_reads' HO755.out).1; omega)); obtain ⟨ua756_0, uc756_0, rfl, ul756_0, ge756_0⟩ := Kd.FK_slice_open hMe756; have hv756_0 := hcc756 0 _ rfl; rw [Nat.add_zero, show ((Kd.slice 2 (Kd.int .i64))).sz = 1 from rfl, Nat.mul_one] at hv756_0; replace hv756_0 := Option.some.inj (hv756_0.symm.trans hx756_0); injection hv756_0 with hva_ hvn_ hvc_; rw [hva_] at ge756_0; rw [hvc_] at ul756_0; have HL756_0 := Aside0.mk (show Kd.V (Kd.int .i64) 2 _ w.heap.size _ _ (rd_L1 t753 0) from Kd.V_mk ul756_0 ge756_0); clear hva_ hvn_ hvc_ ge756_0 ul756_0; clear hcc756 hce756; have qi756 : (0 < t753.length) = True := eq_true (by omega); (try rw [show ((0 : Int)).toNat = 0 from rfl] at hx756_0); (try rw [Addr.add_zero'] at hx756_0); have HR756_0 := Aside0.mk hi756_0; have HC756_0 := Aside0.mk hl756_0; clear hi756_0 hl756_0; replace p756 := eq_true p756; replace q756 := eq_true q756; have p757 : 0 ≤ ((ji6) : Int) := of_decide_eq_true (by first | (with_reducible assumption) | assumption); have q757 : (ji6) < ((rd_L1 t753 0).length : Int) := of_decide_eq_true (by first | (with_reducible assumption) | assumption); obtain ⟨ad757, e757, hx757_0⟩ := Kd.at_int (by repeat (first | (with_reducible exact HR756_0.out) | (with_reducible refine Kd.C_alloc ?_ _) | (with_reducible refine Kd.C_drewN ?_ _) | (with_reducible refine Kd.C_drew ?_) | exact HR756_0.out)) (ji6) p757 q757; cases e757; replace p757 := eq_true p757; replace q757 := eq_true q757) | ((with_reducible refine gate_dst (N := 29) rfl ?_); refine Kd.R_lit (Kd.int .i64) _ 2 ?hg (N := 29) ?hd (xs := ([] : List Int)) (inner := []) (ok := fun _ => True) (okp := fun _ => True) ?hr ?hp (fun _ hk => hk) trivial (Below.refl _ _) (Nat.le_refl _) (by simp) ?_; (case hd => rfl); (case hg => rfl); (case hr => first | (go_simp; done) | (go_simp; rfl)); (case hp => exact (Reps.none _ _)); intro v759 w16 ho17 hb hg_ hnew_; clear hg_ hnew_; (first | rw [← Ny758.out] at ho17 | (simp only [Int.reduceToNat] at ho17; rw [← Ny758.out] at ho17)); have n0_ := Aside0.mk (Kd.N_elder' (by (with_reducible repeat (first | apply Kd.N_alloc | apply Kd.N_drewN | apply Kd.N_drew)); exact HO755.out) (Kd.R_base ho17) hb); have n1_ := Aside0.mk (Kd.V_elder' (by (with_reducible repeat (first | apply Kd.V_alloc | apply Kd.V_drewN | apply Kd.V_drew)); exact HL756_0.out) (Kd.R_base ho17) hb); have n2_ := Aside0.mk (Kd.R_lower ho17 (below_size (by repeat (first | (with_reducible first | exact HB.out | apply below_alloc | apply pw_below_drewN | apply below_drew1) | exact HB.out)))); have n3_ := Aside0.mk (Kd.C_below (by repeat (first | (with_reducible exact HR756_0.out) | (with_reducible refine Kd.C_alloc ?_ _) | (with_reducible refine Kd.C_drewN ?_ _) | (with_reducible refine Kd.C_drew ?_) | exact HR756_0.out)) hb); have n4_ := Aside0.mk (below_step (by repeat (first | (with_reducible first | exact HB.out | apply below_alloc | apply pw_below_drewN | apply below_drew1) | exact HB.out)) hb); clear HO755; clear HL756_0; clear HR756_0; clear HB; have HO755 := n0_; have HL756_0 := n1_; have HO760 := n2_; have HR756_0 := n3_; have HB := n4_; clear n0_ n1_ n2_ n3_ n4_; clear hb ho17))
     repeat (go_quiet (first | (go_at_call 96; (with_reducible refine (spec_l03Table.calls k _ _ l0 a2 ji6 t753 _ ?side1 ?side2 A4.out).mono ?_); (case side1 => repeat (first | exact HR0.out | (with_reducible refine Kd.C_alloc ?_ _) | (with_reducible refine Kd.C_drewN ?_ _) | (with_reducible refine Kd.C_drew ?_))); (case side2 => exact HC0.out); rintro e w14 ⟨v754, rfl, ho0, hb⟩; have n0_ := Aside0.mk (Kd.N_lower (Kd.N_mono (ok' := fun k_ => True) ho0 (fun k_ hk_ => trivial)) (below_size (by repeat (first | (with_reducible first | exact HB.out | apply below_alloc | apply pw_below_drewN | apply below_drew1) | exact HB.out)))); have n1_ := Aside0.mk (below_step (by repeat (first | (with_reducible first | exact HB.out | apply below_alloc | apply pw_below_drewN | apply below_drew1) | exact HB.out)) hb); clear HB; have HO755 := n0_; have HB := n1_; clear n0_ n1_; (try clear hb); (try clear hb2); (try clear hk); (try clear hi); (try clear ho0); obtain ⟨Ao15, co15, eo15⟩ := Kd.N_slice HO755.out; subst eo15; have p756 : 0 ≤ (0 : Int) := (by omega); have q756 : 0 < (t753.length : Int) := of_decide_eq_true (by first | (with_reducible assumption) | assumption); obtain ⟨ad756, A756_0, c756_0, e756, hx756_0, hl756_0, hi756_0⟩ := at_L1 (Kd.N_reads' HO755.out).2.2 0 p756 q756; cases e756; obtain ⟨ce756, hce756, hMe756, hcc756⟩ := Kd.N_get HO755.out [] 0 p756 (by first | exact q756 | exact of_decide_eq_true (by first | (with_reducible assumption) | assumption) | (have e_ := (Kd.N_reads' HO755.out).1; omega)); obtain ⟨ua756_0, uc756_0, rfl, ul756_0, ge756_0⟩ := Kd.FK_slice_open hMe756; have hv756_0 := hcc756 0 _ rfl; rw [Nat.add_zero, show ((Kd.slice 2 (Kd.int .i64))).sz = 1 from rfl, Nat.mul_one] at hv756_0; replace hv756_0 := Option.some.inj (hv756_0.symm.trans hx756_0); injection hv756_0 with hva_ hvn_ hvc_; rw [hva_] at ge756_0; rw [hvc_] at ul756_0; have HL756_0 := Aside0.mk (show Kd.V (Kd.int .i64) 2 _ w.heap.size _ _ (rd_L1 t753 0) from Kd.V_mk ul756_0 ge756_0); clear hva_ hvn_ hvc_ ge756_0 ul756_0; clear hcc756 hce756; have qi756 : (0 < t753.length) = True := eq_true (by omega); (try rw [show ((0 : Int)).toNat = 0 from rfl] at hx756_0); (try rw [Addr.add_zero'] at hx756_0); have HR756_0 := Aside0.mk hi756_0; have HC756_0 := Aside0.mk hl756_0; clear hi756_0 hl756_0; replace p756 := eq_true p756; replace q756 := eq_true q756; have p757 : 0 ≤ ((ji6) : Int) := of_decide_eq_true (by first | (with_reducible assumption) | assumption); have q757 : (ji6) < ((rd_L1 t753 0).length : Int) := of_decide_eq_true (by first | (with_reducible assumption) | assumption); obtain ⟨ad757, e757, hx757_0⟩ := Kd.at_int (by repeat (first | (with_reducible exact HR756_0.out) | (with_reducible refine Kd.C_alloc ?_ _) | (with_reducible refine Kd.C_drewN ?_ _) | (with_reducible refine Kd.C_drew ?_) | exact HR756_0.out)) (ji6) p757 q757; cases e757; replace p757 := eq_true p757; replace q757 := eq_true q757) | ((with_reducible refine gate_dst (N := 29) rfl ?_); refine Kd.R_lit (Kd.int .i64) _ 2 ?hg (N := 29) ?hd (xs := ([] : List Int)) (inner := []) (ok := fun _ => True) (okp := fun _ => True) ?hr ?hp (fun _ hk => hk) trivial (Below.refl _ _) (Nat.le_refl _) (by simp) ?_; (case hd => rfl); (case hg => rfl); (case hr => first | (go_simp; done) | (go_simp; rfl)); (case hp => exact (Reps.none _ _)); intro v759 w16 ho17 hb hg_ hnew_; clear hg_ hnew_; (first | rw [← Ny758.out] at ho17 | (simp only [Int.reduceToNat] at ho17; rw [← Ny758.out] at ho17)); have n0_ := Aside0.mk (Kd.N_elder' (by (with_reducible repeat (first | apply Kd.N_alloc | apply Kd.N_drewN | apply Kd.N_drew)); exact HO755.out) (Kd.R_base ho17) hb); have n1_ := Aside0.mk (Kd.V_elder' (by (with_reducible repeat (first | apply Kd.V_alloc | apply Kd.V_drewN | apply Kd.V_drew)); exact HL756_0.out) (Kd.R_base ho17) hb); have n2_ := Aside0.mk (Kd.R_lower ho17 (below_size (by repeat (first | (with_reducible first | exact HB.out | apply below_alloc | apply pw_below_drewN | apply below_drew1) | exact HB.out)))); have n3_ := Aside0.mk (Kd.C_below (by repeat (first | (with_reducible exact HR756_0.out) | (with_reducible refine Kd.C_alloc ?_ _) | (with_reducible refine Kd.C_drewN ?_ _) | (with_reducible refine Kd.C_drew ?_) | exact HR756_0.out)) hb); have n4_ := Aside0.mk (below_step (by repeat (first | (with_reducible first | exact HB.out | apply below_alloc | apply pw_below_drewN | apply below_drew1) | exact HB.out)) hb); clear HO755; clear HL756_0; clear HR756_0; clear HB; have HO755 := n0_; have HL756_0 := n1_; have HO760 := n2_; have HR756_0 := n3_; have HB := n4_; clear n0_ n1_ n2_ n3_ n4_; clear hb ho17)); try go_wp2_with (first | (go_at_call 96; (with_reducible refine (spec_l03Table.calls k _ _ l0 a2 ji6 t753 _ ?side1 ?side2 A4.out).mono ?_); (case side1 => repeat (first | exact HR0.out | (with_reducible refine Kd.C_alloc ?_ _) | (with_reducible refine Kd.C_drewN ?_ _) | (with_reducible refine Kd.C_drew ?_))); (case side2 => exact HC0.out); rintro e w14 ⟨v754, rfl, ho0, hb⟩; have n0_ := Aside0.mk (Kd.N_lower (Kd.N_mono (ok' := fun k_ => True) ho0 (fun k_ hk_ => trivial)) (below_size (by repeat (first | (with_reducible first | exact HB.out | apply below_alloc | apply pw_below_drewN | apply below_drew1) | exact HB.out)))); have n1_ := Aside0.mk (below_step (by repeat (first | (with_reducible first | exact HB.out | apply below_alloc | apply pw_below_drewN | apply below_drew1) | exact HB.out)) hb); clear HB; have HO755 := n0_; have HB := n1_; clear n0_ n1_; (try clear hb); (try clear hb2); (try clear hk); (try clear hi); (try clear ho0); obtain ⟨Ao15, co15, eo15⟩ := Kd.N_slice HO755.out; subst eo15; have p756 : 0 ≤ (0 : Int) := (by omega); have q756 : 0 < (t753.length : Int) := of_decide_eq_true (by first | (with_reducible assumption) | assumption); obtain ⟨ad756, A756_0, c756_0, e756, hx756_0, hl756_0, hi756_0⟩ := at_L1 (Kd.N_reads' HO755.out).2.2 0 p756 q756; cases e756; obtain ⟨ce756, hce756, hMe756, hcc756⟩ := Kd.N_get HO755.out [] 0 p756 (by first | exact q756 | exact of_decide_eq_true (by first | (with_reducible assumption) | assumption) | (have e_ := (Kd.N_reads' HO755.out).1; omega)); obtain ⟨ua756_0, uc756_0, rfl, ul756_0, ge756_0⟩ := Kd.FK_slice_open hMe756; have hv756_0 := hcc756 0 _ rfl; rw [Nat.add_zero, show ((Kd.slice 2 (Kd.int .i64))).sz = 1 from rfl, Nat.mul_one] at hv756_0; replace hv756_0 := Option.some.inj (hv756_0.symm.trans hx756_0); injection hv756_0 with hva_ hvn_ hvc_; rw [hva_] at ge756_0; rw [hvc_] at ul756_0; have HL756_0 := Aside0.mk (show Kd.V (Kd.int .i64) 2 _ w.heap.size _ _ (rd_L1 t753 0) from Kd.V_mk ul756_0 ge756_0); clear hva_ hvn_ hvc_ ge756_0 ul756_0; clear hcc756 hce756; have qi756 : (0 < t753.length) = True := eq_true (by omega); (try rw [show ((0 : Int)).toNat = 0 from rfl] at hx756_0); (try rw [Addr.add_zero'] at hx756_0); have HR756_0 := Aside0.mk hi756_0; have HC756_0 := Aside0.mk hl756_0; clear hi756_0 hl756_0; replace p756 := eq_true p756; replace q756 := eq_true q756; have p757 : 0 ≤ ((ji6) : Int) := of_decide_eq_true (by first | (with_reducible assumption) | assumption); have q757 : (ji6) < ((rd_L1 t753 0).length : Int) := of_decide_eq_true (by first | (with_reducible assumption) | assumption); obtain ⟨ad757, e757, hx757_0⟩ := Kd.at_int (by repeat (first | (with_reducible exact HR756_0.out) | (with_reducible refine Kd.C_alloc ?_ _) | (with_reducible refine Kd.C_drewN ?_ _) | (with_reducible refine Kd.C_drew ?_) | exact HR756_0.out)) (ji6) p757 q757; cases e757; replace p757 := eq_true p757; replace q757 := eq_true q757) | ((with_reducible refine gate_dst (N := 29) rfl ?_); refine Kd.R_lit (Kd.int .i64) _ 2 ?hg (N := 29) ?hd (xs := ([] : List Int)) (inner := []) (ok := fun _ => True) (okp := fun _ => True) ?hr ?hp (fun _ hk => hk) trivial (Below.refl _ _) (Nat.le_refl _) (by simp) ?_; (case hd => rfl); (case hg => rfl); (case hr => first | (go_simp; done) | (go_simp; rfl)); (case hp => exact (Reps.none _ _)); intro v759 w16 ho17 hb hg_ hnew_; clear hg_ hnew_; (first | rw [← Ny758.out] at ho17 | (simp only [Int.reduceToNat] at ho17; rw [← Ny758.out] at ho17)); have n0_ := Aside0.mk (Kd.N_elder' (by (with_reducible repeat (first | apply Kd.N_alloc | apply Kd.N_drewN | apply Kd.N_drew)); exact HO755.out) (Kd.R_base ho17) hb); have n1_ := Aside0.mk (Kd.V_elder' (by (with_reducible repeat (first | apply Kd.V_alloc | apply Kd.V_drewN | apply Kd.V_drew)); exact HL756_0.out) (Kd.R_base ho17) hb); have n2_ := Aside0.mk (Kd.R_lower ho17 (below_size (by repeat (first | (with_reducible first | exact HB.out | apply below_alloc | apply pw_below_drewN | apply below_drew1) | exact HB.out)))); have n3_ := Aside0.mk (Kd.C_below (by repeat (first | (with_reducible exact HR756_0.out) | (with_reducible refine Kd.C_alloc ?_ _) | (with_reducible refine Kd.C_drewN ?_ _) | (with_reducible refine Kd.C_drew ?_) | exact HR756_0.out)) hb); have n4_ := Aside0.mk (below_step (by repeat (first | (with_reducible first | exact HB.out | apply below_alloc | apply pw_below_drewN | apply below_drew1) | exact HB.out)) hb); clear HO755; clear HL756_0; clear HR756_0; clear HB; have HO755 := n0_; have HL756_0 := n1_; have HO760 := n2_; have HR756_0 := n3_; have HB := n4_; clear n0_ n1_ n2_ n3_ n4_; clear hb ho17)))
     go_loopg [9, 12, 13] k (fun kq v9 v12 v13 w' => ∃ (x9_1 : Int) (x12_1 : List Int) (x13_1 : Int), v9 = .int .i64 x9_1 ∧ v13 = .int .i64 x13_1 ∧ Aside0 (spec_l03Fill.l0 kq l0 a2 x9_1 t753 (rd (rd_L1 t753 0) (ji6)) x12_1 x13_1 = some (r1, r2, r3)) ∧ Aside0 (kq ≤ k) ∧ Aside0 (Kd.N (Kd.slice 2 (Kd.int .i64)) 22 w' w.heap.size (fun k_ => some k_ ≠ (v12 : Value).ownBlock) (.slice (some ad756) t753.length co15) t753) ∧ Aside0 (Kd.R (Kd.int .i64) 2 w' w.heap.size (fun _ => True) v12 x12_1) ∧ Aside0 (Below w.heap.size w w'))
     case atStart => exact ⟨(ji6), (y758), (0), (by first | rfl | (simp; done) | (simp only [← hji6] <;> (first | rfl | simp)) | (simp [*]; done)), (by first | rfl | (simp; done) | (simp [*]; done)), H', ⟨Nat.le_refl _⟩, ⟨by (with_reducible repeat (first | apply Kd.N_alloc | apply Kd.N_drewN | apply Kd.N_drew)); exact Kd.N_mono HO755.out (fun _ hk => hk.2)⟩, ⟨by (with_reducible repeat (first | apply Kd.R_alloc | apply Kd.R_drewN | apply Kd.R_drew)); exact HO760.out⟩, ⟨by repeat (first | (with_reducible first | exact HB.out | apply below_alloc | apply pw_below_drewN | apply below_drew1) | exact HB.out)⟩⟩
     case round =>
      clear H'
      try clear p2
      try clear c5
      try clear c5b0
      try clear c5b1
      try clear p6
      try clear c7
      try clear c7b0
      try clear p7
      try clear q7
      try clear hx7
      try clear qi7
      try clear c8
      try clear c8b0
      try clear c9
      try clear c9b0
      try clear hx756_0
      try clear hx757_0
      try clear p756
      try clear p757
      try clear q756
      try clear q757
      obtain ⟨x9_1, x12_1, x13_1, rfl, rfl, HA, HK1, HO_10, HO_12, HB⟩ := hrel
      cases gk with
      | zero => exact absurd HA.out (by simp [spec_l03Fill.l0])
      | succ k1 =>
       have H := HA.out
       clear HA
       simp only [spec_l03Fill.l0] at H
       by_cases c18 : x13_1 < (l0.length : Int)
       ·
        rw [if_pos c18] at H
        have c18b0 : decide (x13_1 < (l0.length : Int)) = true := decide_eq_true c18
        clear c18
        by_cases c19 : 0 ≤ x13_1
        ·
         rw [if_pos c19] at H
         have c19b0 : decide (0 ≤ x13_1) = true := decide_eq_true c19
         clear c19
         have H' := Aside0.mk H
         clear H
         have p761 : 0 ≤ (x13_1 : Int) := of_decide_eq_true (by first | (with_reducible assumption) | assumption)
         have q761 : x13_1 < (l0.length : Int) := of_decide_eq_true (by first | (with_reducible assumption) | assumption)
         obtain ⟨ad761, e761, hx761_0, hx761_1⟩ := at_T66 HR0.out x13_1 p761 q761
         cases e761
         replace hx761_0 := (HB.out.cell (World.block_lt_of_cell? w _ hx761_0)).trans hx761_0
         replace hx761_1 := (HB.out.cell (World.block_lt_of_cell? w _ hx761_1)).trans hx761_1
         replace p761 := eq_true p761
         replace q761 := eq_true q761
         go_wp2
         repeat (go_quiet (fail); try go_wp2)
         go_loopg [15] k1 (fun kq v15 w' => ∃ (x15_2 : Int), v15 = .int .i64 x15_2 ∧ Aside0 (spec_l03Fill.l1 kq l0 a2 x9_1 t753 (rd (rd_L1 t753 0) (ji6)) x12_1 x13_1 (wrap64 ((wrap64 ((rd_T66 l0 x13_1).f0)) + a2)) x15_2 = some (r1, r2, r3)) ∧ Aside0 (kq ≤ k1) ∧ Aside0 (Kd.N (Kd.slice 2 (Kd.int .i64)) 22 w' w.heap.size (fun k_ => some k_ ≠ (u12 : Value).ownBlock) (.slice (some ad756) t753.length co15) t753) ∧ Aside0 (Kd.R (Kd.int .i64) 2 w' w.heap.size (fun _ => True) u12 x12_1) ∧ Aside0 (Below w.heap.size w w'))
         case atStart => exact ⟨(0), (by first | rfl | (simp; done) | (simp [*]; done)), H', ⟨Nat.le_refl _⟩, ⟨by (with_reducible repeat (first | apply Kd.N_alloc | apply Kd.N_drewN | apply Kd.N_drew)); exact HO_10.out⟩, ⟨by (with_reducible repeat (first | apply Kd.R_alloc | apply Kd.R_drewN | apply Kd.R_drew)); exact HO_12.out⟩, ⟨by repeat (first | (with_reducible first | exact HB.out | apply below_alloc | apply pw_below_drewN | apply below_drew1) | exact HB.out)⟩⟩
         case round =>
          clear H'
          try clear c1
          try clear p2
          try clear c5
          try clear c5b0
          try clear c5b1
          try clear p6
          try clear c7
          try clear c7b0
          try clear p7
          try clear q7
          try clear hx7
          try clear qi7
          try clear c8
          try clear c8b0
          try clear c9
          try clear c9b0
          try clear c18
          try clear c18b0
          try clear c19
          try clear c19b0
          try clear hx756_0
          try clear hx757_0
          try clear hx761_0
          try clear hx761_1
          try clear p2
          try clear p6
          try clear p7
          try clear p756
          try clear p757
          try clear p761
          try clear q7
          try clear q756
          try clear q757
          try clear q761
          obtain ⟨x15_2, rfl, HA, HK2, HO_10, HO_12, HB⟩ := hrel
          cases gk with
          | zero => exact absurd HA.out (by simp [spec_l03Fill.l1])
          | succ k2 =>
           have H := HA.out
           clear HA
           simp only [spec_l03Fill.l1] at H
           by_cases c20 : (wrap64 (x15_2 * (wrap64 ((wrap64 ((rd_T66 l0 x13_1).f0)) + a2)))) > x9_1
           ·
            rw [if_pos c20] at H
            have c20b0 : decide (x9_1 < (wrap64 (x15_2 * (wrap64 ((wrap64 ((rd_T66 l0 x13_1).f0)) + a2))))) = true := decide_eq_true c20
            clear c20
            have H' := Aside0.mk H
            clear H
            go_wp2
            repeat (go_quiet (fail); try go_wp2)
            go_roundg k2
            case measure => have := HK1.out; have := HK2.out; omega
            case rel => exact ⟨(wrap64 (x15_2 + 1)), (by first | rfl | (simp; done) | (simp [*]; done)), H', ⟨by have := HK1.out; have := HK2.out; omega⟩, ⟨by (with_reducible repeat (first | apply Kd.N_alloc | apply Kd.N_drewN | apply Kd.N_drew)); exact HO_10.out⟩, ⟨by (with_reducible repeat (first | apply Kd.R_alloc | apply Kd.R_drewN | apply Kd.R_drew)); exact HO_12.out⟩, ⟨by repeat (first | (with_reducible first | exact HB.out | apply below_alloc | apply pw_below_drewN | apply below_drew1) | exact HB.out)⟩⟩
           ·
            rw [if_neg c20] at H
            have c20b0 : decide (x9_1 < (wrap64 (x15_2 * (wrap64 ((wrap64 ((rd_T66 l0 x13_1).f0)) + a2))))) = false := decide_eq_false c20
            clear c20
            obtain ⟨ji21, hji21⟩ : ∃ j_ : Int, (wrap64 (x13_1 + 1)) = j_ := ⟨_, rfl⟩
            replace H : (if 0 ≤ (ji21) then (if (ji21) < (t753.length : Int) then (if 0 ≤ (wrap64 (x9_1 - (wrap64 (x15_2 * (wrap64 ((wrap64 ((rd_T66 l0 x13_1).f0)) + a2)))))) then (if (wrap64 (x9_1 - (wrap64 (x15_2 * (wrap64 ((wrap64 ((rd_T66 l0 x13_1).f0)) + a2)))))) < ((rd_L1 t753 (ji21)).length : Int) then (if (rd (rd_L1 t753 (ji21)) (wrap64 (x9_1 - (wrap64 (x15_2 * (wrap64 ((wrap64 ((rd_T66 l0 x13_1).f0)) + a2))))))) < 0 then (spec_l03Fill.l1 k2 l0 a2 x9_1 t753 (rd (rd_L1 t753 0) (ji6)) x12_1 x13_1 (wrap64 ((wrap64 ((rd_T66 l0 x13_1).f0)) + a2)) (wrap64 (x15_2 + 1))) else (if 0 ≤ x13_1 then (if x13_1 < (t753.length : Int) then (if 0 ≤ x9_1 then (if x9_1 < ((rd_L1 t753 x13_1).length : Int) then (if (wrap64 ((rd (rd_L1 t753 (ji21)) (wrap64 (x9_1 - (wrap64 (x15_2 * (wrap64 ((wrap64 ((rd_T66 l0 x13_1).f0)) + a2))))))) + x15_2)) = (rd (rd_L1 t753 x13_1) x9_1) then (if x12_1.length < 17592186044416 then (spec_l03Fill.l0 k2 l0 a2 (wrap64 (x9_1 - (wrap64 (x15_2 * (wrap64 ((wrap64 ((rd_T66 l0 x13_1).f0)) + a2)))))) t753 (rd (rd_L1 t753 0) (ji6)) (x12_1 ++ [x15_2]) ji21) else (none)) else (spec_l03Fill.l1 k2 l0 a2 x9_1 t753 (rd (rd_L1 t753 0) (ji6)) x12_1 x13_1 (wrap64 ((wrap64 ((rd_T66 l0 x13_1).f0)) + a2)) (wrap64 (x15_2 + 1)))) else (none)) else (none)) else (none)) else (none))) else (none)) else (none)) else (none)) else (none)) = some (r1, r2, r3) := by first | (rw [hji21] at H; exact H) | (simp only [hji21] at H ⊢; exact H)
            have hji21w : (IntKind.i64.wrap (x13_1 + 1)) = ji21 := (i64_w _).trans hji21
            by_cases c22 : 0 ≤ (ji21)
            ·
             rw [if_pos c22] at H
             have c22b0 : decide (0 ≤ (ji21)) = true := decide_eq_true c22
             clear c22
             by_cases c23 : (ji21) < (t753.length : Int)
             ·
              rw [if_pos c23] at H
              have c23b0 : decide ((ji21) < (t753.length : Int)) = true := decide_eq_true c23
              clear c23
              obtain ⟨ji24, hji24⟩ : ∃ j_ : Int, (wrap64 (x9_1 - (wrap64 (x15_2 * (wrap64 ((wrap64 ((rd_T66 l0 x13_1).f0)) + a2)))))) = j_ := ⟨_, rfl⟩
              replace H : (if 0 ≤ (ji24) then (if (ji24) < ((rd_L1 t753 (ji21)).length : Int) then (if (rd (rd_L1 t753 (ji21)) (ji24)) < 0 then (spec_l03Fill.l1 k2 l0 a2 x9_1 t753 (rd (rd_L1 t753 0) (ji6)) x12_1 x13_1 (wrap64 ((wrap64 ((rd_T66 l0 x13_1).f0)) + a2)) (wrap64 (x15_2 + 1))) else (if 0 ≤ x13_1 then (if x13_1 < (t753.length : Int) then (if 0 ≤ x9_1 then (if x9_1 < ((rd_L1 t753 x13_1).length : Int) then (if (wrap64 ((rd (rd_L1 t753 (ji21)) (ji24)) + x15_2)) = (rd (rd_L1 t753 x13_1) x9_1) then (if x12_1.length < 17592186044416 then (spec_l03Fill.l0 k2 l0 a2 ji24 t753 (rd (rd_L1 t753 0) (ji6)) (x12_1 ++ [x15_2]) ji21) else (none)) else (spec_l03Fill.l1 k2 l0 a2 x9_1 t753 (rd (rd_L1 t753 0) (ji6)) x12_1 x13_1 (wrap64 ((wrap64 ((rd_T66 l0 x13_1).f0)) + a2)) (wrap64 (x15_2 + 1)))) else (none)) else (none)) else (none)) else (none))) else (none)) else (none)) = some (r1, r2, r3) := by first | (rw [hji24] at H; exact H) | (simp only [hji24] at H ⊢; exact H)
              have hji24w : (IntKind.i64.wrap (x9_1 - (wrap64 (x15_2 * (wrap64 ((wrap64 ((rd_T66 l0 x13_1).f0)) + a2)))))) = ji24 := (i64_w _).trans hji24
              by_cases c25 : 0 ≤ (ji24)
              ·
               rw [if_pos c25] at H
               have c25b0 : decide (0 ≤ (ji24)) = true := decide_eq_true c25
               clear c25
               by_cases c26 : (ji24) < ((rd_L1 t753 (ji21)).length : Int)
               ·
                rw [if_pos c26] at H
                have c26b0 : decide ((ji24) < ((rd_L1 t753 (ji21)).length : Int)) = true := decide_eq_true c26
                clear c26
                by_cases c27 : (rd (rd_L1 t753 (ji21)) (ji24)) < 0
                ·
                 rw [if_pos c27] at H
                 have c27b0 : decide ((rd (rd_L1 t753 (ji21)) (ji24)) < 0) = true := decide_eq_true c27
                 clear c27
                 have H' := Aside0.mk H
                 clear H
                 have p762 : 0 ≤ ((ji21) : Int) := of_decide_eq_true (by first | (with_reducible assumption) | assumption)
                 have q762 : (ji21) < (t753.length : Int) := of_decide_eq_true (by first | (with_reducible assumption) | assumption)
                 obtain ⟨ad762, A762_0, c762_0, e762, hx762_0, hl762_0, hi762_0⟩ := at_L1 (Kd.N_reads' HO_10.out).2.2 (ji21) p762 q762
                 obtain rfl : ad756 = ad762 := (by injection e762)
                 obtain ⟨ce762, hce762, hMe762, hcc762⟩ := Kd.N_get HO_10.out [] (ji21) p762 (by first | exact q762 | exact of_decide_eq_true (by first | (with_reducible assumption) | assumption) | (have e_ := (Kd.N_reads' HO_10.out).1; omega))
                 obtain ⟨ua762_0, uc762_0, rfl, ul762_0, ge762_0⟩ := Kd.FK_slice_open hMe762
                 have hv762_0 := hcc762 0 _ rfl
                 rw [Nat.add_zero, show ((Kd.slice 2 (Kd.int .i64))).sz = 1 from rfl, Nat.mul_one] at hv762_0
                 replace hv762_0 := Option.some.inj (hv762_0.symm.trans hx762_0)
                 injection hv762_0 with hva_ hvn_ hvc_
                 rw [hva_] at ge762_0
                 rw [hvc_] at ul762_0
                 have HL762_0 := Aside0.mk (show Kd.V (Kd.int .i64) 2 _ w.heap.size _ _ (rd_L1 t753 (ji21)) from Kd.V_mk ul762_0 ge762_0)
                 clear hva_ hvn_ hvc_ ge762_0 ul762_0
                 clear hcc762 hce762
                 have HR762_0 := Aside0.mk hi762_0
                 have HC762_0 := Aside0.mk hl762_0
                 clear hi762_0 hl762_0
                 replace p762 := eq_true p762
                 replace q762 := eq_true q762
                 have p763 : 0 ≤ ((ji24) : Int) := of_decide_eq_true (by first | (with_reducible assumption) | assumption)
                 have q763 : (ji24) < ((rd_L1 t753 (ji21)).length : Int) := of_decide_eq_true (by first | (with_reducible assumption) | assumption)
                 obtain ⟨ad763, e763, hx763_0⟩ := Kd.at_int (by repeat (first | (with_reducible exact HR762_0.out) | (with_reducible refine Kd.C_alloc ?_ _) | (with_reducible refine Kd.C_drewN ?_ _) | (with_reducible refine Kd.C_drew ?_) | exact HR762_0.out)) (ji24) p763 q763
                 cases e763
                 replace p763 := eq_true p763
                 replace q763 := eq_true q763
                 go_wp2
                 repeat (go_quiet (fail); try go_wp2)
                 go_roundg k2
                 case measure => have := HK1.out; have := HK2.out; omega
                 case rel => exact ⟨(wrap64 (x15_2 + 1)), (by first | rfl | (simp; done) | (simp [*]; done)), H', ⟨by have := HK1.out; have := HK2.out; omega⟩, ⟨by (with_reducible repeat (first | apply Kd.N_alloc | apply Kd.N_drewN | apply Kd.N_drew)); exact HO_10.out⟩, ⟨by (with_reducible repeat (first | apply Kd.R_alloc | apply Kd.R_drewN | apply Kd.R_drew)); exact HO_12.out⟩, ⟨by repeat (first | (with_reducible first | exact HB.out | apply below_alloc | apply pw_below_drewN | apply below_drew1) | exact HB.out)⟩⟩
                ·
                 rw [if_neg c27] at H
                 have c27b0 : decide ((rd (rd_L1 t753 (ji21)) (ji24)) < 0) = false := decide_eq_false c27
                 clear c27
                 by_cases c28 : 0 ≤ x13_1
                 ·
                  rw [if_pos c28] at H
                  have c28b0 : decide (0 ≤ x13_1) = true := decide_eq_true c28
                  clear c28
                  by_cases c29 : x13_1 < (t753.length : Int)
                  ·
                   rw [if_pos c29] at H
                   have c29b0 : decide (x13_1 < (t753.length : Int)) = true := decide_eq_true c29
                   clear c29
                   by_cases c30 : 0 ≤ x9_1
                   ·
                    rw [if_pos c30] at H
                    have c30b0 : decide (0 ≤ x9_1) = true := decide_eq_true c30
                    clear c30
                    by_cases c31 : x9_1 < ((rd_L1 t753 x13_1).length : Int)
                    ·
                     rw [if_pos c31] at H
                     have c31b0 : decide (x9_1 < ((rd_L1 t753 x13_1).length : Int)) = true := decide_eq_true c31
                     clear c31
                     by_cases c32 : (wrap64 ((rd (rd_L1 t753 (ji21)) (ji24)) + x15_2)) = (rd (rd_L1 t753 x13_1) x9_1)
                     ·
                      rw [if_pos c32] at H
                      have c32b0 : ((wrap64 ((rd (rd_L1 t753 (ji21)) (ji24)) + x15_2)) == (rd (rd_L1 t753 x13_1) x9_1)) = true := beq_iff_eq.mpr c32
                      have c32b1 : ((wrap64 ((rd (rd_L1 t753 (ji21)) (ji24)) + x15_2)) != (rd (rd_L1 t753 x13_1) x9_1)) = false := bne_eq_false_iff_eq.mpr c32
                      clear c32
                      by_cases c33 : x12_1.length < 17592186044416
                      ·
                       rw [if_pos c33] at H
                       have LMc33 := Aside0.mk c33
                       clear c33
                       obtain ⟨y768, hy768⟩ : ∃ y_ : List Int, y_ = (x12_1 ++ [x15_2]) := ⟨_, rfl⟩
                       replace H : (spec_l03Fill.l0 k2 l0 a2 ji24 t753 (rd (rd_L1 t753 0) (ji6)) y768 ji21) = some (r1, r2, r3) := by first | (rw [hy768]; with_reducible exact H) | (have H2_ := (Option.bind_some _ _).symm.trans H; rw [hy768]; with_reducible exact H2_) | (have H2_ := (Option.bind_some _ _).symm.trans H; with_reducible exact H2_) | with_reducible exact H | (rw [hy768]; exact H) | exact H
                       have Ny768 := Aside0.mk hy768
                       clear hy768
                       have H' := Aside0.mk H
                       clear H
                       have p762 : 0 ≤ ((ji21) : Int) := of_decide_eq_true (by first | (with_reducible assumption) | assumption)
                       have q762 : (ji21) < (t753.length : Int) := of_decide_eq_true (by first | (with_reducible assumption) | assumption)
                       obtain ⟨ad762, A762_0, c762_0, e762, hx762_0, hl762_0, hi762_0⟩ := at_L1 (Kd.N_reads' HO_10.out).2.2 (ji21) p762 q762
                       obtain rfl : ad756 = ad762 := (by injection e762)
                       obtain ⟨ce762, hce762, hMe762, hcc762⟩ := Kd.N_get HO_10.out [] (ji21) p762 (by first | exact q762 | exact of_decide_eq_true (by first | (with_reducible assumption) | assumption) | (have e_ := (Kd.N_reads' HO_10.out).1; omega))
                       obtain ⟨ua762_0, uc762_0, rfl, ul762_0, ge762_0⟩ := Kd.FK_slice_open hMe762
                       have hv762_0 := hcc762 0 _ rfl
                       rw [Nat.add_zero, show ((Kd.slice 2 (Kd.int .i64))).sz = 1 from rfl, Nat.mul_one] at hv762_0
                       replace hv762_0 := Option.some.inj (hv762_0.symm.trans hx762_0)
                       injection hv762_0 with hva_ hvn_ hvc_
                       rw [hva_] at ge762_0
                       rw [hvc_] at ul762_0
                       have HL762_0 := Aside0.mk (show Kd.V (Kd.int .i64) 2 _ w.heap.size _ _ (rd_L1 t753 (ji21)) from Kd.V_mk ul762_0 ge762_0)
                       clear hva_ hvn_ hvc_ ge762_0 ul762_0
                       clear hcc762 hce762
                       have HR762_0 := Aside0.mk hi762_0
                       have HC762_0 := Aside0.mk hl762_0
                       clear hi762_0 hl762_0
                       replace p762 := eq_true p762
                       replace q762 := eq_true q762
                       have p763 : 0 ≤ ((ji24) : Int) := of_decide_eq_true (by first | (with_reducible assumption) | assumption)
                       have q763 : (ji24) < ((rd_L1 t753 (ji21)).length : Int) := of_decide_eq_true (by first | (with_reducible assumption) | assumption)
                       obtain ⟨ad763, e763, hx763_0⟩ := Kd.at_int (by repeat (first | (with_reducible exact HR762_0.out) | (with_reducible refine Kd.C_alloc ?_ _) | (with_reducible refine Kd.C_drewN ?_ _) | (with_reducible refine Kd.C_drew ?_) | exact HR762_0.out)) (ji24) p763 q763
                       cases e763
                       replace p763 := eq_true p763
                       replace q763 := eq_true q763
                       have p764 : 0 ≤ ((ji21) : Int) := of_decide_eq_true (by first | (with_reducible assumption) | assumption)
                       have q764 : (ji21) < (t753.length : Int) := of_decide_eq_true (by first | (with_reducible assumption) | assumption)
                       obtain ⟨ad764, A764_0, c764_0, e764, hx764_0, hl764_0, hi764_0⟩ := at_L1 (Kd.N_reads' HO_10.out).2.2 (ji21) p764 q764
                       obtain rfl : ad756 = ad764 := (by injection e764)
                       obtain ⟨ce764, hce764, hMe764, hcc764⟩ := Kd.N_get HO_10.out [] (ji21) p764 (by first | exact q764 | exact of_decide_eq_true (by first | (with_reducible assumption) | assumption) | (have e_ := (Kd.N_reads' HO_10.out).1; omega))
                       obtain ⟨ua764_0, uc764_0, rfl, ul764_0, ge764_0⟩ := Kd.FK_slice_open hMe764
                       have hv764_0 := hcc764 0 _ rfl
                       rw [Nat.add_zero, show ((Kd.slice 2 (Kd.int .i64))).sz = 1 from rfl, Nat.mul_one] at hv764_0
                       replace hv764_0 := Option.some.inj (hv764_0.symm.trans hx764_0)
                       injection hv764_0 with hva_ hvn_ hvc_
                       rw [hva_] at ge764_0
                       rw [hvc_] at ul764_0
                       have HL764_0 := Aside0.mk (show Kd.V (Kd.int .i64) 2 _ w.heap.size _ _ (rd_L1 t753 (ji21)) from Kd.V_mk ul764_0 ge764_0)
                       clear hva_ hvn_ hvc_ ge764_0 ul764_0
                       clear hcc764 hce764
                       have HR764_0 := Aside0.mk hi764_0
                       have HC764_0 := Aside0.mk hl764_0
                       clear hi764_0 hl764_0
                       replace p764 := eq_true p764
                       replace q764 := eq_true q764
                       have ea_ := Option.some.inj (hx762_0.symm.trans hx764_0)
                       injection ea_ with ea_ en_ ec_
                       subst ea_
                       subst ec_
                       clear en_
                       have p765 : 0 ≤ ((ji24) : Int) := of_decide_eq_true (by first | (with_reducible assumption) | assumption)
                       have q765 : (ji24) < ((rd_L1 t753 (ji21)).length : Int) := of_decide_eq_true (by first | (with_reducible assumption) | assumption)
                       obtain ⟨ad765, e765, hx765_0⟩ := Kd.at_int (by repeat (first | (with_reducible exact HR764_0.out) | (with_reducible refine Kd.C_alloc ?_ _) | (with_reducible refine Kd.C_drewN ?_ _) | (with_reducible refine Kd.C_drew ?_) | exact HR764_0.out)) (ji24) p765 q765
                       cases e765
                       replace p765 := eq_true p765
                       replace q765 := eq_true q765
                       have p766 : 0 ≤ (x13_1 : Int) := of_decide_eq_true (by first | (with_reducible assumption) | assumption)
                       have q766 : x13_1 < (t753.length : Int) := of_decide_eq_true (by first | (with_reducible assumption) | assumption)
                       obtain ⟨ad766, A766_0, c766_0, e766, hx766_0, hl766_0, hi766_0⟩ := at_L1 (Kd.N_reads' HO_10.out).2.2 x13_1 p766 q766
                       obtain rfl : ad756 = ad766 := (by injection e766)
                       obtain ⟨ce766, hce766, hMe766, hcc766⟩ := Kd.N_get HO_10.out [] x13_1 p766 (by first | exact q766 | exact of_decide_eq_true (by first | (with_reducible assumption) | assumption) | (have e_ := (Kd.N_reads' HO_10.out).1; omega))
                       obtain ⟨ua766_0, uc766_0, rfl, ul766_0, ge766_0⟩ := Kd.FK_slice_open hMe766
                       have hv766_0 := hcc766 0 _ rfl
                       rw [Nat.add_zero, show ((Kd.slice 2 (Kd.int .i64))).sz = 1 from rfl, Nat.mul_one] at hv766_0
                       replace hv766_0 := Option.some.inj (hv766_0.symm.trans hx766_0)
                       injection hv766_0 with hva_ hvn_ hvc_
                       rw [hva_] at ge766_0
                       rw [hvc_] at ul766_0
                       have HL766_0 := Aside0.mk (show Kd.V (Kd.int .i64) 2 _ w.heap.size _ _ (rd_L1 t753 x13_1) from Kd.V_mk ul766_0 ge766_0)
                       clear hva_ hvn_ hvc_ ge766_0 ul766_0
                       clear hcc766 hce766
                       have HR766_0 := Aside0.mk hi766_0
                       have HC766_0 := Aside0.mk hl766_0
                       clear hi766_0 hl766_0
                       replace p766 := eq_true p766
                       replace q766 := eq_true q766
                       have p767 : 0 ≤ (x9_1 : Int) := of_decide_eq_true (by first | (with_reducible assumption) | assumption)
                       have q767 : x9_1 < ((rd_L1 t753 x13_1).length : Int) := of_decide_eq_true (by first | (with_reducible assumption) | assumption)
                       obtain ⟨ad767, e767, hx767_0⟩ := Kd.at_int (by repeat (first | (with_reducible exact HR766_0.out) | (with_reducible refine Kd.C_alloc ?_ _) | (with_reducible refine Kd.C_drewN ?_ _) | (with_reducible refine Kd.C_drew ?_) | exact HR766_0.out)) x9_1 p767 q767
                       cases e767
                       replace p767 := eq_true p767
                       replace q767 := eq_true q767
                       go_wp2_with (first | ((with_reducible refine gate_builtin (b := .append) (xs := #[.tmp 93, .tmp 95]) rfl ?_); at_builtin; refine Kd.R_append (Kd.int .i64) (w0 := w) w.heap.size rfl (.tmp 93) (.tmp 95) 22 2 (.int .i64 0) 8 rfl Try.underlying22 info2 rfl (by decide) (by omega) u12 x12_1 x15_2 [.int .i64 x15_2] (fun _ => True) (fun _ => False) rfl rfl ?aP (fun _ hk => hk.elim) ?aF ?aO ?aB ?aS ?aL ?_; (case aP => exact rfl); (case aB => exact (by repeat (first | (with_reducible first | exact HB.out | apply below_alloc | apply pw_below_drewN | apply below_drew1) | exact HB.out))); (case aF => exact (fun _ _ => trivial)); (case aO => exact (by (with_reducible repeat (first | apply Kd.R_alloc | apply Kd.R_drewN | apply Kd.R_drew)); exact HO_12.out)); (case aS => exact (below_size (by repeat (first | (with_reducible first | exact HB.out | apply below_alloc | apply pw_below_drewN | apply below_drew1) | exact HB.out)))); (case aL => have := LMc33.out; omega); intro v769 w34 ho hb hg hat; rw [← Ny768.out] at ho; have n0_ := Aside0.mk (Kd.N_afterv (ok := (fun _ => True)) (by (with_reducible repeat (first | apply Kd.N_alloc | apply Kd.N_drewN | apply Kd.N_drew)); exact Kd.N_mono HO_10.out (fun _ hk => ⟨trivial, hk⟩)) hg hat); have n1_ := Aside0.mk (Kd.V_afterv (ok := (fun k_ => some k_ ≠ (.slice (some ad756) t753.length co15 : Value).ownBlock)) (by (with_reducible repeat (first | apply Kd.V_alloc | apply Kd.V_drewN | apply Kd.V_drew)); exact Kd.V_mono HL762_0.out (fun _ hk => ⟨hk.2, hk.1⟩)) hg hat); have n2_ := Aside0.mk (Kd.V_afterv (ok := (fun k_ => some k_ ≠ (.slice (some ad756) t753.length co15 : Value).ownBlock)) (by (with_reducible repeat (first | apply Kd.V_alloc | apply Kd.V_drewN | apply Kd.V_drew)); exact Kd.V_mono HL764_0.out (fun _ hk => ⟨hk.2, hk.1⟩)) hg hat); have n3_ := Aside0.mk (Kd.V_afterv (ok := (fun k_ => some k_ ≠ (.slice (some ad756) t753.length co15 : Value).ownBlock)) (by (with_reducible repeat (first | apply Kd.V_alloc | apply Kd.V_drewN | apply Kd.V_drew)); exact Kd.V_mono HL766_0.out (fun _ hk => ⟨hk.2, hk.1⟩)) hg hat); have n4_ := Aside0.mk (hb); have n5_ := Aside0.mk (ho); clear HO_10; clear HL762_0; clear HL764_0; clear HL766_0; clear HB; clear HO_12; have HO_10 := n0_; have HL762_0 := n1_; have HL764_0 := n2_; have HL766_0 := n3_; have HB := n4_; have HO770 := n5_; clear n0_ n1_ n2_ n3_ n4_ n5_; clear ho hb hg hat))
                       repeat (go_quiet (first | ((with_reducible refine gate_builtin (b := .append) (xs := #[.tmp 93, .tmp 95]) rfl ?_); at_builtin; refine Kd.R_append (Kd.int .i64) (w0 := w) w.heap.size rfl (.tmp 93) (.tmp 95) 22 2 (.int .i64 0) 8 rfl Try.underlying22 info2 rfl (by decide) (by omega) u12 x12_1 x15_2 [.int .i64 x15_2] (fun _ => True) (fun _ => False) rfl rfl ?aP (fun _ hk => hk.elim) ?aF ?aO ?aB ?aS ?aL ?_; (case aP => exact rfl); (case aB => exact (by repeat (first | (with_reducible first | exact HB.out | apply below_alloc | apply pw_below_drewN | apply below_drew1) | exact HB.out))); (case aF => exact (fun _ _ => trivial)); (case aO => exact (by (with_reducible repeat (first | apply Kd.R_alloc | apply Kd.R_drewN | apply Kd.R_drew)); exact HO_12.out)); (case aS => exact (below_size (by repeat (first | (with_reducible first | exact HB.out | apply below_alloc | apply pw_below_drewN | apply below_drew1) | exact HB.out)))); (case aL => have := LMc33.out; omega); intro v769 w34 ho hb hg hat; rw [← Ny768.out] at ho; have n0_ := Aside0.mk (Kd.N_afterv (ok := (fun _ => True)) (by (with_reducible repeat (first | apply Kd.N_alloc | apply Kd.N_drewN | apply Kd.N_drew)); exact Kd.N_mono HO_10.out (fun _ hk => ⟨trivial, hk⟩)) hg hat); have n1_ := Aside0.mk (Kd.V_afterv (ok := (fun k_ => some k_ ≠ (.slice (some ad756) t753.length co15 : Value).ownBlock)) (by (with_reducible repeat (first | apply Kd.V_alloc | apply Kd.V_drewN | apply Kd.V_drew)); exact Kd.V_mono HL762_0.out (fun _ hk => ⟨hk.2, hk.1⟩)) hg hat); have n2_ := Aside0.mk (Kd.V_afterv (ok := (fun k_ => some k_ ≠ (.slice (some ad756) t753.length co15 : Value).ownBlock)) (by (with_reducible repeat (first | apply Kd.V_alloc | apply Kd.V_drewN | apply Kd.V_drew)); exact Kd.V_mono HL764_0.out (fun _ hk => ⟨hk.2, hk.1⟩)) hg hat); have n3_ := Aside0.mk (Kd.V_afterv (ok := (fun k_ => some k_ ≠ (.slice (some ad756) t753.length co15 : Value).ownBlock)) (by (with_reducible repeat (first | apply Kd.V_alloc | apply Kd.V_drewN | apply Kd.V_drew)); exact Kd.V_mono HL766_0.out (fun _ hk => ⟨hk.2, hk.1⟩)) hg hat); have n4_ := Aside0.mk (hb); have n5_ := Aside0.mk (ho); clear HO_10; clear HL762_0; clear HL764_0; clear HL766_0; clear HB; clear HO_12; have HO_10 := n0_; have HL762_0 := n1_; have HL764_0 := n2_; have HL766_0 := n3_; have HB := n4_; have HO770 := n5_; clear n0_ n1_ n2_ n3_ n4_ n5_; clear ho hb hg hat)); try go_wp2_with (first | ((with_reducible refine gate_builtin (b := .append) (xs := #[.tmp 93, .tmp 95]) rfl ?_); at_builtin; refine Kd.R_append (Kd.int .i64) (w0 := w) w.heap.size rfl (.tmp 93) (.tmp 95) 22 2 (.int .i64 0) 8 rfl Try.underlying22 info2 rfl (by decide) (by omega) u12 x12_1 x15_2 [.int .i64 x15_2] (fun _ => True) (fun _ => False) rfl rfl ?aP (fun _ hk => hk.elim) ?aF ?aO ?aB ?aS ?aL ?_; (case aP => exact rfl); (case aB => exact (by repeat (first | (with_reducible first | exact HB.out | apply below_alloc | apply pw_below_drewN | apply below_drew1) | exact HB.out))); (case aF => exact (fun _ _ => trivial)); (case aO => exact (by (with_reducible repeat (first | apply Kd.R_alloc | apply Kd.R_drewN | apply Kd.R_drew)); exact HO_12.out)); (case aS => exact (below_size (by repeat (first | (with_reducible first | exact HB.out | apply below_alloc | apply pw_below_drewN | apply below_drew1) | exact HB.out)))); (case aL => have := LMc33.out; omega); intro v769 w34 ho hb hg hat; rw [← Ny768.out] at ho; have n0_ := Aside0.mk (Kd.N_afterv (ok := (fun _ => True)) (by (with_reducible repeat (first | apply Kd.N_alloc | apply Kd.N_drewN | apply Kd.N_drew)); exact Kd.N_mono HO_10.out (fun _ hk => ⟨trivial, hk⟩)) hg hat); have n1_ := Aside0.mk (Kd.V_afterv (ok := (fun k_ => some k_ ≠ (.slice (some ad756) t753.length co15 : Value).ownBlock)) (by (with_reducible repeat (first | apply Kd.V_alloc | apply Kd.V_drewN | apply Kd.V_drew)); exact Kd.V_mono HL762_0.out (fun _ hk => ⟨hk.2, hk.1⟩)) hg hat); have n2_ := Aside0.mk (Kd.V_afterv (ok := (fun k_ => some k_ ≠ (.slice (some ad756) t753.length co15 : Value).ownBlock)) (by (with_reducible repeat (first | apply Kd.V_alloc | apply Kd.V_drewN | apply Kd.V_drew)); exact Kd.V_mono HL764_0.out (fun _ hk => ⟨hk.2, hk.1⟩)) hg hat); have n3_ := Aside0.mk (Kd.V_afterv (ok := (fun k_ => some k_ ≠ (.slice (some ad756) t753.length co15 : Value).ownBlock)) (by (with_reducible repeat (first | apply Kd.V_alloc | apply Kd.V_drewN | apply Kd.V_drew)); exact Kd.V_mono HL766_0.out (fun _ hk => ⟨hk.2, hk.1⟩)) hg hat); have n4_ := Aside0.mk (hb); have n5_ := Aside0.mk (ho); clear HO_10; clear HL762_0; clear HL764_0; clear HL766_0; clear HB; clear HO_12; have HO_10 := n0_; have HL762_0 := n1_; have HL764_0 := n2_; have HL766_0 := n3_; have HB := n4_; have HO770 := n5_; clear n0_ n1_ n2_ n3_ n4_ n5_; clear ho hb hg hat)))
                       go_roundg k2
                       case measure => have := HK1.out; have := HK2.out; omega
                       case rel => exact ⟨(ji24), (y768), (ji21), (by first | rfl | (simp; done) | (simp only [← hji24] <;> (first | rfl | simp)) | (simp [*]; done)), (by first | rfl | (simp; done) | (simp only [← hji21] <;> (first | rfl | simp)) | (simp [*]; done)), H', ⟨by have := HK1.out; have := HK2.out; omega⟩, ⟨by (with_reducible repeat (first | apply Kd.N_alloc | apply Kd.N_drewN | apply Kd.N_drew)); exact Kd.N_mono HO_10.out (fun _ hk => hk.2)⟩, ⟨by (with_reducible repeat (first | apply Kd.R_alloc | apply Kd.R_drewN | apply Kd.R_drew)); exact HO770.out⟩, ⟨by repeat (first | (with_reducible first | exact HB.out | apply below_alloc | apply pw_below_drewN | apply below_drew1) | exact HB.out)⟩⟩
                      ·
                       rw [if_neg c33] at H
                       exact absurd H (by simp)
                     ·
                      rw [if_neg c32] at H
                      have c32b0 : ((wrap64 ((rd (rd_L1 t753 (ji21)) (ji24)) + x15_2)) == (rd (rd_L1 t753 x13_1) x9_1)) = false := beq_eq_false_iff_ne.mpr c32
                      have c32b1 : ((wrap64 ((rd (rd_L1 t753 (ji21)) (ji24)) + x15_2)) != (rd (rd_L1 t753 x13_1) x9_1)) = true := bne_iff_ne.mpr c32
                      have H' := Aside0.mk H
                      clear H
                      have p762 : 0 ≤ ((ji21) : Int) := of_decide_eq_true (by first | (with_reducible assumption) | assumption)
                      have q762 : (ji21) < (t753.length : Int) := of_decide_eq_true (by first | (with_reducible assumption) | assumption)
                      obtain ⟨ad762, A762_0, c762_0, e762, hx762_0, hl762_0, hi762_0⟩ := at_L1 (Kd.N_reads' HO_10.out).2.2 (ji21) p762 q762
                      obtain rfl : ad756 = ad762 := (by injection e762)
                      obtain ⟨ce762, hce762, hMe762, hcc762⟩ := Kd.N_get HO_10.out [] (ji21) p762 (by first | exact q762 | exact of_decide_eq_true (by first | (with_reducible assumption) | assumption) | (have e_ := (Kd.N_reads' HO_10.out).1; omega))
                      obtain ⟨ua762_0, uc762_0, rfl, ul762_0, ge762_0⟩ := Kd.FK_slice_open hMe762
                      have hv762_0 := hcc762 0 _ rfl
                      rw [Nat.add_zero, show ((Kd.slice 2 (Kd.int .i64))).sz = 1 from rfl, Nat.mul_one] at hv762_0
                      replace hv762_0 := Option.some.inj (hv762_0.symm.trans hx762_0)
                      injection hv762_0 with hva_ hvn_ hvc_
                      rw [hva_] at ge762_0
                      rw [hvc_] at ul762_0
                      have HL762_0 := Aside0.mk (show Kd.V (Kd.int .i64) 2 _ w.heap.size _ _ (rd_L1 t753 (ji21)) from Kd.V_mk ul762_0 ge762_0)
                      clear hva_ hvn_ hvc_ ge762_0 ul762_0
                      clear hcc762 hce762
                      have HR762_0 := Aside0.mk hi762_0
                      have HC762_0 := Aside0.mk hl762_0
                      clear hi762_0 hl762_0
                      replace p762 := eq_true p762
                      replace q762 := eq_true q762
                      have p763 : 0 ≤ ((ji24) : Int) := of_decide_eq_true (by first | (with_reducible assumption) | assumption)
                      have q763 : (ji24) < ((rd_L1 t753 (ji21)).length : Int) := of_decide_eq_true (by first | (with_reducible assumption) | assumption)
                      obtain ⟨ad763, e763, hx763_0⟩ := Kd.at_int (by repeat (first | (with_reducible exact HR762_0.out) | (with_reducible refine Kd.C_alloc ?_ _) | (with_reducible refine Kd.C_drewN ?_ _) | (with_reducible refine Kd.C_drew ?_) | exact HR762_0.out)) (ji24) p763 q763
                      cases e763
                      replace p763 := eq_true p763
                      replace q763 := eq_true q763
                      have p764 : 0 ≤ ((ji21) : Int) := of_decide_eq_true (by first | (with_reducible assumption) | assumption)
                      have q764 : (ji21) < (t753.length : Int) := of_decide_eq_true (by first | (with_reducible assumption) | assumption)
                      obtain ⟨ad764, A764_0, c764_0, e764, hx764_0, hl764_0, hi764_0⟩ := at_L1 (Kd.N_reads' HO_10.out).2.2 (ji21) p764 q764
                      obtain rfl : ad756 = ad764 := (by injection e764)
                      obtain ⟨ce764, hce764, hMe764, hcc764⟩ := Kd.N_get HO_10.out [] (ji21) p764 (by first | exact q764 | exact of_decide_eq_true (by first | (with_reducible assumption) | assumption) | (have e_ := (Kd.N_reads' HO_10.out).1; omega))
                      obtain ⟨ua764_0, uc764_0, rfl, ul764_0, ge764_0⟩ := Kd.FK_slice_open hMe764
                      have hv764_0 := hcc764 0 _ rfl
                      rw [Nat.add_zero, show ((Kd.slice 2 (Kd.int .i64))).sz = 1 from rfl, Nat.mul_one] at hv764_0
                      replace hv764_0 := Option.some.inj (hv764_0.symm.trans hx764_0)
                      injection hv764_0 with hva_ hvn_ hvc_
                      rw [hva_] at ge764_0
                      rw [hvc_] at ul764_0
                      have HL764_0 := Aside0.mk (show Kd.V (Kd.int .i64) 2 _ w.heap.size _ _ (rd_L1 t753 (ji21)) from Kd.V_mk ul764_0 ge764_0)
                      clear hva_ hvn_ hvc_ ge764_0 ul764_0
                      clear hcc764 hce764
                      have HR764_0 := Aside0.mk hi764_0
                      have HC764_0 := Aside0.mk hl764_0
                      clear hi764_0 hl764_0
                      replace p764 := eq_true p764
                      replace q764 := eq_true q764
                      have ea_ := Option.some.inj (hx762_0.symm.trans hx764_0)
                      injection ea_ with ea_ en_ ec_
                      subst ea_
                      subst ec_
                      clear en_
                      have p765 : 0 ≤ ((ji24) : Int) := of_decide_eq_true (by first | (with_reducible assumption) | assumption)
                      have q765 : (ji24) < ((rd_L1 t753 (ji21)).length : Int) := of_decide_eq_true (by first | (with_reducible assumption) | assumption)
                      obtain ⟨ad765, e765, hx765_0⟩ := Kd.at_int (by repeat (first | (with_reducible exact HR764_0.out) | (with_reducible refine Kd.C_alloc ?_ _) | (with_reducible refine Kd.C_drewN ?_ _) | (with_reducible refine Kd.C_drew ?_) | exact HR764_0.out)) (ji24) p765 q765
                      cases e765
                      replace p765 := eq_true p765
                      replace q765 := eq_true q765
                      have p766 : 0 ≤ (x13_1 : Int) := of_decide_eq_true (by first | (with_reducible assumption) | assumption)
                      have q766 : x13_1 < (t753.length : Int) := of_decide_eq_true (by first | (with_reducible assumption) | assumption)
                      obtain ⟨ad766, A766_0, c766_0, e766, hx766_0, hl766_0, hi766_0⟩ := at_L1 (Kd.N_reads' HO_10.out).2.2 x13_1 p766 q766
                      obtain rfl : ad756 = ad766 := (by injection e766)
                      obtain ⟨ce766, hce766, hMe766, hcc766⟩ := Kd.N_get HO_10.out [] x13_1 p766 (by first | exact q766 | exact of_decide_eq_true (by first | (with_reducible assumption) | assumption) | (have e_ := (Kd.N_reads' HO_10.out).1; omega))
                      obtain ⟨ua766_0, uc766_0, rfl, ul766_0, ge766_0⟩ := Kd.FK_slice_open hMe766
                      have hv766_0 := hcc766 0 _ rfl
                      rw [Nat.add_zero, show ((Kd.slice 2 (Kd.int .i64))).sz = 1 from rfl, Nat.mul_one] at hv766_0
                      replace hv766_0 := Option.some.inj (hv766_0.symm.trans hx766_0)
                      injection hv766_0 with hva_ hvn_ hvc_
                      rw [hva_] at ge766_0
                      rw [hvc_] at ul766_0
                      have HL766_0 := Aside0.mk (show Kd.V (Kd.int .i64) 2 _ w.heap.size _ _ (rd_L1 t753 x13_1) from Kd.V_mk ul766_0 ge766_0)
                      clear hva_ hvn_ hvc_ ge766_0 ul766_0
                      clear hcc766 hce766
                      have HR766_0 := Aside0.mk hi766_0
                      have HC766_0 := Aside0.mk hl766_0
                      clear hi766_0 hl766_0
                      replace p766 := eq_true p766
                      replace q766 := eq_true q766
                      have p767 : 0 ≤ (x9_1 : Int) := of_decide_eq_true (by first | (with_reducible assumption) | assumption)
                      have q767 : x9_1 < ((rd_L1 t753 x13_1).length : Int) := of_decide_eq_true (by first | (with_reducible assumption) | assumption)
                      obtain ⟨ad767, e767, hx767_0⟩ := Kd.at_int (by repeat (first | (with_reducible exact HR766_0.out) | (with_reducible refine Kd.C_alloc ?_ _) | (with_reducible refine Kd.C_drewN ?_ _) | (with_reducible refine Kd.C_drew ?_) | exact HR766_0.out)) x9_1 p767 q767
                      cases e767
                      replace p767 := eq_true p767
                      replace q767 := eq_true q767
                      go_wp2
                      repeat (go_quiet (fail); try go_wp2)
                      go_roundg k2
                      case measure => have := HK1.out; have := HK2.out; omega
                      case rel => exact ⟨(wrap64 (x15_2 + 1)), (by first | rfl | (simp; done) | (simp [*]; done)), H', ⟨by have := HK1.out; have := HK2.out; omega⟩, ⟨by (with_reducible repeat (first | apply Kd.N_alloc | apply Kd.N_drewN | apply Kd.N_drew)); exact HO_10.out⟩, ⟨by (with_reducible repeat (first | apply Kd.R_alloc | apply Kd.R_drewN | apply Kd.R_drew)); exact HO_12.out⟩, ⟨by repeat (first | (with_reducible first | exact HB.out | apply below_alloc | apply pw_below_drewN | apply below_drew1) | exact HB.out)⟩⟩
                    ·
                     rw [if_neg c31] at H
                     exact absurd H (by simp)
                   ·
                    rw [if_neg c30] at H
                    exact absurd H (by simp)
                  ·
                   rw [if_neg c29] at H
                   exact absurd H (by simp)
                 ·
                  rw [if_neg c28] at H
                  exact absurd H (by simp)
               ·
                rw [if_neg c26] at H
                exact absurd H (by simp)
              ·
               rw [if_neg c25] at H
               exact absurd H (by simp)
             ·
              rw [if_neg c23] at H
              exact absurd H (by simp)
            ·
             rw [if_neg c22] at H
             exact absurd H (by simp)
        ·
         rw [if_neg c19] at H
         exact absurd H (by simp)
       ·
        rw [if_neg c18] at H
        have c18b0 : decide (x13_1 < (l0.length : Int)) = false := decide_eq_false c18
        clear c18
        simp only [Option.some.injEq, Prod.mk.injEq] at H
        obtain ⟨rfl, rfl, rfl⟩ := H
        go_wp2
        repeat (go_quiet (fail); try go_wp2)
        go_ret3
        exact ⟨_, by first | rfl | (simp [errW_none, errW_some] <;> rfl) | (simp only [← hji6]; first | rfl | (simp [errW_none, errW_some] <;> rfl)) | (simp [*, errW_none, errW_some] <;> rfl), by (with_reducible repeat (first | apply Kd.R_alloc | apply Kd.R_drewN | apply Kd.R_drew)); exact HO_12.out, by repeat (first | (with_reducible first | exact HB.out | apply below_alloc | apply pw_below_drewN | apply below_drew1) | exact HB.out)⟩
   ·
    rw [if_neg c8] at H
    exact absurd H (by simp)
  ·
   rw [if_neg c7] at H
   exact absurd H (by simp)
 ·
  rw [if_neg c5] at H
  exact absurd H (by simp)
end Go.Proofs.Ytabooaeobpgadaa.Q
