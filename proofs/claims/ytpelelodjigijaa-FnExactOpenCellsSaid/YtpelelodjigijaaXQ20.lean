-- By a program of this session's: of the print's words what this claim needs. Lean checks it.
import Derived.Test.YtpelelodjigijaaXQ0
import Derived.Test.YtpelelodjigijaaXQ13
import Derived.Test.YtpelelodjigijaaXQ19
import Derived.Test.YtpelelodjigijaaXQ5
namespace Go.Proofs.Ytpelelodjigijaa.Q
open Go.RowKit Go.Proofs.YtpelelodjigijaaW.PrintWords Go.Proofs.YtpelelodjigijaaW.PrintLast Go.Proofs.YtpelelodjigijaaW.PrintMore
attribute [local go_sem] max2_int min2_int max_two min_two max_three min_three max_four min_four
set_option linter.unusedVariables false
set_option linter.unusedSimpArgs false
def spec_OpenCells.f (k : Nat) (a0_0 : Int) (a0_1 : Int) (l0_2 : List (S38)) : Option ((List (S46)) × Int) := (spec_l01Ok.f k [(⟨a0_0, a0_1, l0_2⟩ : S30)]).bind fun t428 => (if t428 = true then ((spec_l01Open.f k [(⟨a0_0, a0_1, l0_2⟩ : S30)]).bind fun t429 => (some (t429, 0))) else (some ((([] : List (S46))), 1)))
theorem spec_OpenCells.mono : ∀ a0 a1 a2 k, LeO (spec_OpenCells.f k a0 a1 a2) (spec_OpenCells.f (k + 1) a0 a1 a2) := by
 intro a0 a1 a2 k
 unfold spec_OpenCells.f
 repeat' first
   | (with_reducible exact spec_l01Ok.mono _ _)
   | (with_reducible exact spec_l01Open.mono _ _)
   | (with_reducible exact LeO.refl _)
   | (with_reducible exact LeO.none _)
   | (with_reducible refine LeO.ite ?_ ?_)
   | (with_reducible refine LeO.bind ?_ (fun _ => ?_))
   | exact spec_l01Ok.mono _ _
   | exact spec_l01Open.mono _ _
   | exact LeO.none _
   | refine LeO.ite ?_ ?_
   | refine LeO.bind ?_ (fun _ => ?_)
set_option maxHeartbeats 8000000 in
set_option maxRecDepth 100000 in
theorem spec_OpenCells.calls (k : Nat) (a0_0 : Int) (a0_1 : Int) (A0_2 : Option Addr) (c0_2 : Nat) (l0_2 : List (S38)) (r1 : List (S46)) (r2 : Int) (w : World) (hr0_2 : Kd.C k38 w A0_2 l0_2.length l0_2) (hc0_2 : l0_2.length ≤ c0_2) (h : spec_OpenCells.f k a0_0 a0_1 l0_2 = some (r1, r2)) :
  Calls Try.prog 24 #[.agg #[.int .i8 a0_0, .int .i8 a0_1, .slice A0_2 l0_2.length c0_2]] w fun e w' => ∃ v0_ : Value, e = .returned (.tuple #[v0_, .int .i64 r2]) ∧ Kd.R k46 46 w' w.heap.size (fun _ => True) v0_ r1 ∧ Below w.heap.size w w' := by
 have hu30 := Try.underlying30; have HR0_2 := am_ hr0_2; have HC0_2 := am_ hc0_2; clear hr0_2 hc0_2; have HB := am_ (Below.refl w.heap.size w); have H : ((spec_l01Ok.f k [(⟨a0_0, a0_1, l0_2⟩ : S30)]).bind fun t428 => (if t428 = true then ((spec_l01Open.f k [(⟨a0_0, a0_1, l0_2⟩ : S30)]).bind fun t429 => (some (t429, 0))) else (some ((([] : List (S46))), 1)))) = some (r1, r2) := h; clear h; replace H := Option.bind_eq_some_iff.mp H; obtain ⟨t428, A20, H⟩ := H; replace H : (if t428 = true then ((spec_l01Open.f k [(⟨a0_0, a0_1, l0_2⟩ : S30)]).bind fun t429 => (some (t429, 0))) else (some ((([] : List (S46))), 1))) = some (r1, r2) := H; have A2 := am_ A20; clear A20
 by_cases c3 : t428 = true
 ·
  subst c3; have H1 : ((spec_l01Open.f k [(⟨a0_0, a0_1, l0_2⟩ : S30)]).bind fun t429 => (some (t429, 0))) = some (r1, r2) := by rw [if_pos rfl] at H; exact H
  clear H; have H := H1; clear H1; replace H := Option.bind_eq_some_iff.mp H; obtain ⟨t429, A40, H⟩ := H; replace H : (some (t429, 0)) = some (r1, r2) := H; have A4 := am_ A40; clear A40; simp only [Option.some.injEq, Prod.mk.injEq] at H; obtain ⟨rfl, rfl⟩ := H
  go_enter Try.func24, Try.ntmps24
  go_wp2_with (first | ((with_reducible refine gate_dst (N := 1) rfl ?_); refine box_event ?hg (N := 1) ?hd (cs := #[.int .i8 a0_0, .int .i8 a0_1, .slice A0_2 l0_2.length c0_2]) (t := 30) ?hr ?_; (case hd => rfl); (case hg => rfl); (case hr => first | (go_simp; done) | (go_simp; rfl)); intro gb427 hg w5 hbox hb; have n0_ := am_ (bT_ (by repeat (first | (with_reducible first | exact HB.out | apply bA_ | apply bN_ | apply bD_) | exact HB.out)) hb); have n1_ := am_ (hbox); have n2_ := am_ ((by rw [hg]; exact (below_size (by repeat (first | (with_reducible first | exact HB.out | apply bA_ | apply bN_ | apply bD_) | exact HB.out))) : w.heap.size ≤ gb427)); have n3_ := am_ ((by rw [hg]; exact (below_size (by repeat (first | (with_reducible first | exact HB.out | apply bA_ | apply bN_ | apply bD_) | exact HB.out))) : w.heap.size ≤ gb427)); clear HB; have HB := n0_; have BK427 := n1_; have GW427 := n2_; have GE427 := n3_; clear n0_ n1_ n2_ n3_; clear hb hbox hg) | ((with_reducible refine gate_callee (f := 41) rfl ?_); refine goesL_ (some 4) rfl rfl Try.func41 (by kernel_rfl) rfl #[.pointer (some ⟨gb427, 0, none⟩)] rfl (by (try simp only [List.map_toArray, List.map_cons, List.map_nil]); first | done | rfl | (simp only [List.length_drop, List.length_take]; rfl)) ?_; (with_reducible refine (spec_l01Ok.calls k _ 1 [(⟨a0_0, a0_1, l0_2⟩ : S30)] true _ ?side1 ?side2 A2.out).mono ?_); (case side1 => exact Kd.C_one_ (by (with_reducible repeat (first | refine kN_ ?_ _ | refine kD_ ?_ | refine kA_ ?_ _)); exact BK427.out) (k30_mk _ _ (by exact HC0_2.out) (by repeat (first | exact (Kd.C_below HR0_2.out HB.out) | (with_reducible refine Kd.C_alloc ?_ _) | (with_reducible refine Kd.C_drewN ?_ _) | (with_reducible refine Kd.C_drew ?_))))); (case side2 => exact Nat.le_refl _); rintro e w6 ⟨rfl, hb⟩; refine ⟨_, rfl, ?_⟩; have n0_ := am_ (blk_below (g := gb427) (o := .cells #[.int .i8 a0_0, .int .i8 a0_1, .slice A0_2 l0_2.length c0_2] 30 (0, 0)) (by (with_reducible repeat (first | refine kN_ ?_ _ | refine kD_ ?_ | refine kA_ ?_ _)); exact BK427.out) hb); have n1_ := am_ (bT_ (by repeat (first | (with_reducible first | exact HB.out | apply bA_ | apply bN_ | apply bD_ | refine bS_ ?_ GE427.out) | exact HB.out)) hb); clear BK427; clear HB; have BK427 := n0_; have HB := n1_; clear n0_ n1_; (try clear hb); (try clear hb2); (try clear hk); (try clear hi)) | ((with_reducible refine gate_callee (f := 51) rfl ?_); refine goesL_ (some 7) rfl rfl Try.func51 (by kernel_rfl) rfl #[.pointer (some ⟨gb427, 0, none⟩)] rfl (by (try simp only [List.map_toArray, List.map_cons, List.map_nil]); first | done | rfl | (simp only [List.length_drop, List.length_take]; rfl)) ?_; (with_reducible refine (spec_l01Open.calls k _ 1 [(⟨a0_0, a0_1, l0_2⟩ : S30)] t429 _ ?side1 ?side2 A4.out).mono ?_); (case side1 => exact Kd.C_one_ (by (with_reducible repeat (first | refine kN_ ?_ _ | refine kD_ ?_ | refine kA_ ?_ _)); exact BK427.out) (k30_mk _ _ (by exact HC0_2.out) (by repeat (first | exact (Kd.C_below HR0_2.out HB.out) | (with_reducible refine Kd.C_alloc ?_ _) | (with_reducible refine Kd.C_drewN ?_ _) | (with_reducible refine Kd.C_drew ?_))))); (case side2 => exact Nat.le_refl _); rintro e w7 ⟨v430, rfl, ho0, hb⟩; refine ⟨_, rfl, ?_⟩; have n0_ := am_ (Kd.R_lower ho0 (below_size (by repeat (first | (with_reducible first | exact HB.out | apply bA_ | apply bN_ | apply bD_ | refine bS_ ?_ GE427.out) | exact HB.out)))); have n1_ := am_ (blk_below (g := gb427) (o := .cells #[.int .i8 a0_0, .int .i8 a0_1, .slice A0_2 l0_2.length c0_2] 30 (0, 0)) (by (with_reducible repeat (first | refine kN_ ?_ _ | refine kD_ ?_ | refine kA_ ?_ _)); exact BK427.out) hb); have n2_ := am_ (bT_ (by repeat (first | (with_reducible first | exact HB.out | apply bA_ | apply bN_ | apply bD_ | refine bS_ ?_ GE427.out) | exact HB.out)) hb); clear BK427; clear HB; have HO431 := n0_; have BK427 := n1_; have HB := n2_; clear n0_ n1_ n2_; (try clear hb); (try clear hb2); (try clear hk); (try clear hi); (try clear ho0)))
  go_ret2
  exact ⟨_, by first | rfl | (simp [errW_none, errW_some] <;> rfl) | (simp [*, errW_none, errW_some] <;> rfl), by (with_reducible repeat (first | apply Kd.R_alloc | apply Kd.R_drewN | apply Kd.R_drew)); exact HO431.out, by repeat (first | (with_reducible first | exact HB.out | apply bA_ | apply bN_ | apply bD_ | refine bS_ ?_ GE427.out) | exact HB.out)⟩
 ·
  replace c3 := Bool.eq_false_iff.mpr c3; subst c3; have H1 : (some ((([] : List (S46))), 1)) = some (r1, r2) := by rw [if_neg (show ¬ (false = true) by decide)] at H; exact H
  clear H; have H := H1; clear H1; obtain ⟨y432, hy432⟩ : ∃ y_ : List (S46), y_ = (([] : List (S46))) := ⟨_, rfl⟩
  replace H : (some (y432, 1)) = some (r1, r2) := by first | (rw [hy432]; with_reducible exact H) | (have H2_ := (Option.bind_some _ _).symm.trans H; rw [hy432]; with_reducible exact H2_) | (have H2_ := (Option.bind_some _ _).symm.trans H; with_reducible exact H2_) | with_reducible exact H | (rw [hy432]; exact H) | exact H
  have Ny432 := am_ hy432; clear hy432; simp only [Option.some.injEq, Prod.mk.injEq] at H; obtain ⟨rfl, rfl⟩ := H
  go_enter Try.func24, Try.ntmps24
  go_wp2_with (first | ((with_reducible refine gate_dst (N := 1) rfl ?_); refine box_event ?hg (N := 1) ?hd (cs := #[.int .i8 a0_0, .int .i8 a0_1, .slice A0_2 l0_2.length c0_2]) (t := 30) ?hr ?_; (case hd => rfl); (case hg => rfl); (case hr => first | (go_simp; done) | (go_simp; rfl)); intro gb427 hg w8 hbox hb; have n0_ := am_ (bT_ (by repeat (first | (with_reducible first | exact HB.out | apply bA_ | apply bN_ | apply bD_) | exact HB.out)) hb); have n1_ := am_ (hbox); have n2_ := am_ ((by rw [hg]; exact (below_size (by repeat (first | (with_reducible first | exact HB.out | apply bA_ | apply bN_ | apply bD_) | exact HB.out))) : w.heap.size ≤ gb427)); have n3_ := am_ ((by rw [hg]; exact (below_size (by repeat (first | (with_reducible first | exact HB.out | apply bA_ | apply bN_ | apply bD_) | exact HB.out))) : w.heap.size ≤ gb427)); clear HB; have HB := n0_; have BK427 := n1_; have GW427 := n2_; have GE427 := n3_; clear n0_ n1_ n2_ n3_; clear hb hbox hg) | ((with_reducible refine gate_callee (f := 41) rfl ?_); refine goesL_ (some 4) rfl rfl Try.func41 (by kernel_rfl) rfl #[.pointer (some ⟨gb427, 0, none⟩)] rfl (by (try simp only [List.map_toArray, List.map_cons, List.map_nil]); first | done | rfl | (simp only [List.length_drop, List.length_take]; rfl)) ?_; (with_reducible refine (spec_l01Ok.calls k _ 1 [(⟨a0_0, a0_1, l0_2⟩ : S30)] false _ ?side1 ?side2 A2.out).mono ?_); (case side1 => exact Kd.C_one_ (by (with_reducible repeat (first | refine kN_ ?_ _ | refine kD_ ?_ | refine kA_ ?_ _)); exact BK427.out) (k30_mk _ _ (by exact HC0_2.out) (by repeat (first | exact (Kd.C_below HR0_2.out HB.out) | (with_reducible refine Kd.C_alloc ?_ _) | (with_reducible refine Kd.C_drewN ?_ _) | (with_reducible refine Kd.C_drew ?_))))); (case side2 => exact Nat.le_refl _); rintro e w9 ⟨rfl, hb⟩; refine ⟨_, rfl, ?_⟩; have n0_ := am_ (blk_below (g := gb427) (o := .cells #[.int .i8 a0_0, .int .i8 a0_1, .slice A0_2 l0_2.length c0_2] 30 (0, 0)) (by (with_reducible repeat (first | refine kN_ ?_ _ | refine kD_ ?_ | refine kA_ ?_ _)); exact BK427.out) hb); have n1_ := am_ (bT_ (by repeat (first | (with_reducible first | exact HB.out | apply bA_ | apply bN_ | apply bD_ | refine bS_ ?_ GE427.out) | exact HB.out)) hb); clear BK427; clear HB; have BK427 := n0_; have HB := n1_; clear n0_ n1_; (try clear hb); (try clear hb2); (try clear hk); (try clear hi)) | ((with_reducible refine gate_dst (N := 6) rfl ?_); refine Kd.R_lit k46 _ 46 ?hg (N := 6) ?hd (xs := ([] : List (S46))) (inner := []) (ok := fun _ => True) (okp := fun _ => True) ?hr ?hp (fun _ hk => hk) trivial (Below.refl _ _) (Nat.le_refl _) (by simp) ?_; (case hd => rfl); (case hg => rfl); (case hr => first | (go_simp; done) | (go_simp; rfl)); (case hp => exact (Reps.none _ _)); intro v433 w10 ho11 hb hg_ hnew_; clear hg_ hnew_; (first | rw [← Ny432.out] at ho11 | (simp only [Int.reduceToNat] at ho11; rw [← Ny432.out] at ho11)); have n0_ := am_ (Kd.R_lower ho11 (below_size (by repeat (first | (with_reducible first | exact HB.out | apply bA_ | apply bN_ | apply bD_ | refine bS_ ?_ GE427.out) | exact HB.out)))); have n1_ := am_ (blk_below (g := gb427) (o := .cells #[.int .i8 a0_0, .int .i8 a0_1, .slice A0_2 l0_2.length c0_2] 30 (0, 0)) (by (with_reducible repeat (first | refine kN_ ?_ _ | refine kD_ ?_ | refine kA_ ?_ _)); exact BK427.out) hb); have n2_ := am_ (bT_ (by repeat (first | (with_reducible first | exact HB.out | apply bA_ | apply bN_ | apply bD_ | refine bS_ ?_ GE427.out) | exact HB.out)) hb); clear BK427; clear HB; have HO434 := n0_; have BK427 := n1_; have HB := n2_; clear n0_ n1_ n2_; clear hb ho11))
  go_ret2
  exact ⟨_, by first | rfl | (simp [errW_none, errW_some] <;> rfl) | (simp [*, errW_none, errW_some] <;> rfl), by (with_reducible repeat (first | apply Kd.R_alloc | apply Kd.R_drewN | apply Kd.R_drew)); exact HO434.out, by repeat (first | (with_reducible first | exact HB.out | apply bA_ | apply bN_ | apply bD_ | refine bS_ ?_ GE427.out) | exact HB.out)⟩
def impl_OpenCells_1.f (k : Nat) (a0 : Int) (a1 : Int) (l2 : List (S30)) : Option (Bool) := if 0 < (l2.length : Int) then ((impl_Square_at.f k ((rd_T30 l2 0).f0) ((rd_T30 l2 0).f1) ((rd_T30 l2 0).f2) a0 a1).bind fun t438 => (some (decide (t438 < 0)))) else (none)
theorem impl_OpenCells_1.mono : ∀ a0 a1 a2 k, LeO (impl_OpenCells_1.f k a0 a1 a2) (impl_OpenCells_1.f (k + 1) a0 a1 a2) := by
 intro a0 a1 a2 k
 unfold impl_OpenCells_1.f
 repeat' first
   | (with_reducible exact impl_Square_at.mono _ _ _ _ _ _)
   | (with_reducible exact LeO.refl _)
   | (with_reducible exact LeO.none _)
   | (with_reducible refine LeO.ite ?_ ?_)
   | (with_reducible refine LeO.bind ?_ (fun _ => ?_))
   | exact impl_Square_at.mono _ _ _ _ _ _
   | exact LeO.none _
   | refine LeO.ite ?_ ?_
   | refine LeO.bind ?_ (fun _ => ?_)
set_option maxHeartbeats 8000000 in
set_option maxRecDepth 100000 in
theorem impl_OpenCells_1.calls (k : Nat) (a0 : Int) (a1 : Int) (A2 : Option Addr) (c2 : Nat) (l2 : List (S30)) (r : Bool) (w : World) (hr2 : Kd.C k30 w A2 l2.length l2) (hc2 : l2.length ≤ c2) (h : impl_OpenCells_1.f k a0 a1 l2 = some r) :
  Calls Try.prog 59 #[.int .i64 a0, .int .i64 a1, .pointer A2] w fun e w' => e = .returned (.bool r) ∧ Below w.heap.size w w' := by
 have hu30 := Try.underlying30; have HR2 := am_ hr2; have HC2 := am_ hc2; clear hr2 hc2; have HB := am_ (Below.refl w.heap.size w); have H : (if 0 < (l2.length : Int) then ((impl_Square_at.f k ((rd_T30 l2 0).f0) ((rd_T30 l2 0).f1) ((rd_T30 l2 0).f2) a0 a1).bind fun t438 => (some (decide (t438 < 0)))) else (none)) = some r := h; clear h
 by_cases c4 : 0 < (l2.length : Int)
 ·
  rw [if_pos c4] at H; have c4b0 : decide (0 < (l2.length : Int)) = true := decide_eq_true c4; have c4b1 : decide (0 < l2.length) = true := decide_eq_true (by omega); clear c4; replace H := Option.bind_eq_some_iff.mp H; obtain ⟨t438, A50, H⟩ := H; replace H : (some (decide (t438 < 0))) = some r := H; have A5 := am_ A50; clear A50; obtain rfl := Option.some.inj H; have p437 : 0 ≤ (0 : Int) := (by omega)
  have q437 : 0 < (l2.length : Int) := od_ (by first | (with_reducible assumption) | assumption); obtain ⟨ad437, A437_2, c437_2, e437, hx437_0, hx437_1, hx437_2, hl437_2, hi437_2⟩ := at_T30 HR2.out 0 p437 q437
  cases e437
  have qi437 : (0 < l2.length) = True := eq_true (by omega)
  (try rw [show ((0 : Int)).toNat = 0 from rfl] at hx437_0)
  (try rw [show 0 * 3 = 0 from rfl] at hx437_0)
  (try rw [Addr.add_zero'] at hx437_0)
  (try rw [show ((0 : Int)).toNat = 0 from rfl] at hx437_1)
  (try rw [show 0 * 3 = 0 from rfl] at hx437_1)
  (try rw [Addr.add_zero'] at hx437_1)
  (try rw [show ((0 : Int)).toNat = 0 from rfl] at hx437_2)
  (try rw [show 0 * 3 = 0 from rfl] at hx437_2)
  (try rw [Addr.add_zero'] at hx437_2)
  have HR437_2 := am_ hi437_2; have HC437_2 := am_ hl437_2; clear hi437_2 hl437_2; replace p437 := eq_true p437; replace q437 := eq_true q437
  go_enter Try.func59, Try.ntmps59
  go_wp2_with (first | ((with_reducible refine gate_callee (f := 57) rfl ?_); refine goesL_ (some 9) rfl rfl Try.func57 (by kernel_rfl) rfl #[.agg #[.int .i8 ((rd_T30 l2 0).f0), .int .i8 ((rd_T30 l2 0).f1), .slice A437_2 ((rd_T30 l2 0).f2).length c437_2], .int .i64 a0, .int .i64 a1] rfl (by (try simp only [List.map_toArray, List.map_cons, List.map_nil]); first | done | rfl | (simp only [List.length_drop, List.length_take]; rfl)) ?_; (with_reducible refine (impl_Square_at.calls k ((rd_T30 l2 0).f0) ((rd_T30 l2 0).f1) _ _ ((rd_T30 l2 0).f2) a0 a1 t438 _ ?side1 ?side2 A5.out).mono ?_); (case side1 => repeat (first | exact HR437_2.out | (with_reducible refine Kd.C_alloc ?_ _) | (with_reducible refine Kd.C_drewN ?_ _) | (with_reducible refine Kd.C_drew ?_))); (case side2 => exact HC437_2.out); rintro e w6 ⟨rfl, hb⟩; refine ⟨_, rfl, ?_⟩; have n0_ := am_ (bT_ (by repeat (first | (with_reducible first | exact HB.out | apply bA_ | apply bN_ | apply bD_) | exact HB.out)) hb); clear HB; have HB := n0_; clear n0_; (try clear hb); (try clear hb2); (try clear hk); (try clear hi)))
  go_ret
  exact ⟨by first | rfl | (simp [errW_none, errW_some] <;> rfl) | (simp [*, errW_none, errW_some] <;> rfl), by repeat (first | (with_reducible first | exact HB.out | apply bA_ | apply bN_ | apply bD_) | exact HB.out)⟩
 ·
  rw [if_neg c4] at H; exact absurd H (by simp)
mutual
def impl_Square_cells_at_impl_OpenCells_1.l0 : Nat → List (S46) → Int → Int → List (S30) → Int → Int → List (S38) → Option ((List (S46)))
 | 0, _, _, _, _, _, _, _ => none
 | k + 1, x5, x11, x12, x2000, x440000, x440001, x440002 => if x12 < x11 then (impl_Square_cells_at_impl_OpenCells_1.l1 k x5 x12 x11 x12 (wrap64 (x440000)) 0 x2000 x440000 x440001 x440002) else (some x5)
def impl_Square_cells_at_impl_OpenCells_1.l1 : Nat → List (S46) → Int → Int → Int → Int → Int → List (S30) → Int → Int → List (S38) → Option ((List (S46)))
 | 0, _, _, _, _, _, _, _, _, _, _ => none
 | k + 1, x5, x6, x11, x12, x17, x18, x2000, x440000, x440001, x440002 => if x18 < x17 then ((impl_OpenCells_1.f k x18 x6 x2000).bind fun t443 => (if t443 = true then (if x5.length < 70368744177664 then (impl_Square_cells_at_impl_OpenCells_1.l1 k (x5 ++ [(⟨IntKind.i8.wrap (x18), IntKind.i8.wrap (x6)⟩ : S46)]) x6 x11 x12 x17 (wrap64 (x18 + 1)) x2000 x440000 x440001 x440002) else (none)) else (impl_Square_cells_at_impl_OpenCells_1.l1 k x5 x6 x11 x12 x17 (wrap64 (x18 + 1)) x2000 x440000 x440001 x440002))) else (impl_Square_cells_at_impl_OpenCells_1.l0 k x5 x11 (wrap64 (x12 + 1)) x2000 x440000 x440001 x440002)
end
def impl_Square_cells_at_impl_OpenCells_1.f (k : Nat) (a0_0 : Int) (a0_1 : Int) (l0_2 : List (S38)) (l1_0 : List (S30)) : Option ((List (S46))) := impl_Square_cells_at_impl_OpenCells_1.l0 k (([] : List (S46))) (wrap64 (a0_1)) 0 l1_0 a0_0 a0_1 l0_2
theorem impl_Square_cells_at_impl_OpenCells_1.mono_l : ∀ k, (∀ y0 y1 y2 y3 y4 y5 y6, LeO (impl_Square_cells_at_impl_OpenCells_1.l0 k y0 y1 y2 y3 y4 y5 y6) (impl_Square_cells_at_impl_OpenCells_1.l0 (k + 1) y0 y1 y2 y3 y4 y5 y6)) ∧ (∀ y0 y1 y2 y3 y4 y5 y6 y7 y8 y9, LeO (impl_Square_cells_at_impl_OpenCells_1.l1 k y0 y1 y2 y3 y4 y5 y6 y7 y8 y9) (impl_Square_cells_at_impl_OpenCells_1.l1 (k + 1) y0 y1 y2 y3 y4 y5 y6 y7 y8 y9))
 | 0 => ⟨fun _ _ _ _ _ _ _ r h => by simp [impl_Square_cells_at_impl_OpenCells_1.l0] at h, fun _ _ _ _ _ _ _ _ _ _ r h => by simp [impl_Square_cells_at_impl_OpenCells_1.l1] at h⟩
 | k + 1 => by
  obtain ⟨ih0, ih1⟩ := impl_Square_cells_at_impl_OpenCells_1.mono_l k; refine ⟨?_, ?_⟩
  ·
   intro y0 y1 y2 y3 y4 y5 y6
   unfold impl_Square_cells_at_impl_OpenCells_1.l0
   repeat' first
   | (with_reducible exact ih0 _ _ _ _ _ _ _)
   | (with_reducible exact ih1 _ _ _ _ _ _ _ _ _ _)
   | (with_reducible exact impl_OpenCells_1.mono _ _ _ _)
   | (with_reducible exact LeO.refl _)
   | (with_reducible exact LeO.none _)
   | (with_reducible refine LeO.ite ?_ ?_)
   | (with_reducible refine LeO.bind ?_ (fun _ => ?_))
   | exact ih0 _ _ _ _ _ _ _
   | exact ih1 _ _ _ _ _ _ _ _ _ _
   | exact impl_OpenCells_1.mono _ _ _ _
   | exact LeO.none _
   | refine LeO.ite ?_ ?_
   | refine LeO.bind ?_ (fun _ => ?_)
  ·
   intro y0 y1 y2 y3 y4 y5 y6 y7 y8 y9
   unfold impl_Square_cells_at_impl_OpenCells_1.l1
   repeat' first
   | (with_reducible exact ih0 _ _ _ _ _ _ _)
   | (with_reducible exact ih1 _ _ _ _ _ _ _ _ _ _)
   | (with_reducible exact impl_OpenCells_1.mono _ _ _ _)
   | (with_reducible exact LeO.refl _)
   | (with_reducible exact LeO.none _)
   | (with_reducible refine LeO.ite ?_ ?_)
   | (with_reducible refine LeO.bind ?_ (fun _ => ?_))
   | exact ih0 _ _ _ _ _ _ _
   | exact ih1 _ _ _ _ _ _ _ _ _ _
   | exact impl_OpenCells_1.mono _ _ _ _
   | exact LeO.none _
   | refine LeO.ite ?_ ?_
   | refine LeO.bind ?_ (fun _ => ?_)
theorem impl_Square_cells_at_impl_OpenCells_1.mono : ∀ a0 a1 a2 a3 k, LeO (impl_Square_cells_at_impl_OpenCells_1.f k a0 a1 a2 a3) (impl_Square_cells_at_impl_OpenCells_1.f (k + 1) a0 a1 a2 a3) := by
 intro a0 a1 a2 a3 k; obtain ⟨ih0, ih1⟩ := impl_Square_cells_at_impl_OpenCells_1.mono_l k
 unfold impl_Square_cells_at_impl_OpenCells_1.f
 repeat' first
   | (with_reducible exact ih0 _ _ _ _ _ _ _)
   | (with_reducible exact ih1 _ _ _ _ _ _ _ _ _ _)
   | (with_reducible exact impl_OpenCells_1.mono _ _ _ _)
   | (with_reducible exact LeO.refl _)
   | (with_reducible exact LeO.none _)
   | (with_reducible refine LeO.ite ?_ ?_)
   | (with_reducible refine LeO.bind ?_ (fun _ => ?_))
   | exact ih0 _ _ _ _ _ _ _
   | exact ih1 _ _ _ _ _ _ _ _ _ _
   | exact impl_OpenCells_1.mono _ _ _ _
   | exact LeO.none _
   | refine LeO.ite ?_ ?_
   | refine LeO.bind ?_ (fun _ => ?_)
set_option maxHeartbeats 8000000 in
set_option maxRecDepth 100000 in
theorem impl_Square_cells_at_impl_OpenCells_1.calls (k : Nat) (a0_0 : Int) (a0_1 : Int) (A0_2 : Option Addr) (c0_2 : Nat) (l0_2 : List (S38)) (A1_0 : Option Addr) (c1_0 : Nat) (l1_0 : List (S30)) (r : List (S46)) (w : World) (hr0_2 : Kd.C k38 w A0_2 l0_2.length l0_2) (hc0_2 : l0_2.length ≤ c0_2) (hr1_0 : Kd.C k30 w A1_0 l1_0.length l1_0) (hc1_0 : l1_0.length ≤ c1_0) (h : impl_Square_cells_at_impl_OpenCells_1.f k a0_0 a0_1 l0_2 l1_0 = some r) :
  Calls Try.prog 58 #[.agg #[.int .i8 a0_0, .int .i8 a0_1, .slice A0_2 l0_2.length c0_2], .func (.func 59) #[] #[.pointer A1_0]] w fun e w' => ∃ v0_ : Value, e = .returned (v0_) ∧ Kd.R k46 46 w' w.heap.size (fun _ => True) v0_ r ∧ Below w.heap.size w w' := by
 have hu30 := Try.underlying30; have hu46 := Try.underlying46; have HR0_2 := am_ hr0_2; have HC0_2 := am_ hc0_2; clear hr0_2 hc0_2; have HR1_0 := am_ hr1_0; have HC1_0 := am_ hc1_0; clear hr1_0 hc1_0; have HB := am_ (Below.refl w.heap.size w); have H : (impl_Square_cells_at_impl_OpenCells_1.l0 k (([] : List (S46))) (wrap64 (a0_1)) 0 l1_0 a0_0 a0_1 l0_2) = some r := h; clear h; obtain ⟨y440, hy440⟩ : ∃ y_ : List (S46), y_ = (([] : List (S46))) := ⟨_, rfl⟩
 replace H : (impl_Square_cells_at_impl_OpenCells_1.l0 k y440 (wrap64 (a0_1)) 0 l1_0 a0_0 a0_1 l0_2) = some r := by first | (rw [hy440]; with_reducible exact H) | (have H2_ := (Option.bind_some _ _).symm.trans H; rw [hy440]; with_reducible exact H2_) | (have H2_ := (Option.bind_some _ _).symm.trans H; with_reducible exact H2_) | with_reducible exact H | (rw [hy440]; exact H) | exact H
 have Ny440 := am_ hy440; clear hy440; have H' := am_ H; clear H
 go_enter Try.func58, Try.ntmps58
 go_wp2_with (first | ((with_reducible refine gate_dst (N := 2) rfl ?_); refine box_event ?hg (N := 2) ?hd (cs := #[.int .i8 a0_0, .int .i8 a0_1, .slice A0_2 l0_2.length c0_2]) (t := 30) ?hr ?_; (case hd => rfl); (case hg => rfl); (case hr => first | (go_simp; done) | (go_simp; rfl)); intro gb439 hg w3 hbox hb; have n0_ := am_ (bT_ (by repeat (first | (with_reducible first | exact HB.out | apply bA_ | apply bN_ | apply bD_) | exact HB.out)) hb); have n1_ := am_ (hbox); have n2_ := am_ ((by rw [hg]; exact (below_size (by repeat (first | (with_reducible first | exact HB.out | apply bA_ | apply bN_ | apply bD_) | exact HB.out))) : w.heap.size ≤ gb439)); have n3_ := am_ ((by rw [hg]; exact (below_size (by repeat (first | (with_reducible first | exact HB.out | apply bA_ | apply bN_ | apply bD_) | exact HB.out))) : w.heap.size ≤ gb439)); clear HB; have HB := n0_; have BK439 := n1_; have GW439 := n2_; have GE439 := n3_; clear n0_ n1_ n2_ n3_; clear hb hbox hg) | ((with_reducible refine gate_dst (N := 8) rfl ?_); refine Kd.R_lit k46 _ 46 ?hg (N := 8) ?hd (xs := ([] : List (S46))) (inner := []) (ok := fun _ => True) (okp := fun _ => True) ?hr ?hp (fun _ hk => hk) trivial (Below.refl _ _) (Nat.le_refl _) (by simp) ?_; (case hd => rfl); (case hg => rfl); (case hr => first | (go_simp; done) | (go_simp; rfl)); (case hp => exact (Reps.none _ _)); intro v441 w4 ho5 hb hg_ hnew_; clear hg_ hnew_; (first | rw [← Ny440.out] at ho5 | (simp only [Int.reduceToNat] at ho5; rw [← Ny440.out] at ho5)); have n0_ := am_ (Kd.R_lower ho5 (below_size (by repeat (first | (with_reducible first | exact HB.out | apply bA_ | apply bN_ | apply bD_ | refine bS_ ?_ GE439.out) | exact HB.out)))); have n1_ := am_ (blk_below (g := gb439) (o := .cells #[.int .i8 a0_0, .int .i8 a0_1, .slice A0_2 l0_2.length c0_2] 30 (0, 0)) (by (with_reducible repeat (first | refine kN_ ?_ _ | refine kD_ ?_ | refine kA_ ?_ _)); exact BK439.out) hb); have n2_ := am_ (bT_ (by repeat (first | (with_reducible first | exact HB.out | apply bA_ | apply bN_ | apply bD_ | refine bS_ ?_ GE439.out) | exact HB.out)) hb); clear BK439; clear HB; have HO442 := n0_; have BK439 := n1_; have HB := n2_; clear n0_ n1_ n2_; clear hb ho5; have hcz6_0 : w4.cell? ⟨gb439, 0, none⟩ = some (.int .i8 a0_0) := (kC_ BK439.out 0).trans rfl; have hcz6_1 : w4.cell? ⟨gb439, 1, none⟩ = some (.int .i8 a0_1) := (kC_ BK439.out 1).trans rfl; have hcz6_2 : w4.cell? ⟨gb439, 2, none⟩ = some (.slice A0_2 l0_2.length c0_2) := (kC_ BK439.out 2).trans rfl; have hfz6_0 := kF_ BK439.out 0; have hfz6_1 := kF_ BK439.out 1; have hfz6_2 := kF_ BK439.out 2))
 go_loopg [5, 12] k (fun kq v5 v12 w' => ∃ (x5_1 : List (S46)) (x12_1 : Int), v12 = .int .i64 x12_1 ∧ Aside0 (impl_Square_cells_at_impl_OpenCells_1.l0 kq x5_1 (wrap64 (a0_1)) x12_1 l1_0 a0_0 a0_1 l0_2 = some r) ∧ Aside0 (kq ≤ k) ∧ Aside0 (Kd.R k46 46 w' w.heap.size (fun _ => True) v5 x5_1) ∧ Aside0 (w'.heap[gb439]? = some (.cells #[.int .i8 a0_0, .int .i8 a0_1, (.slice A0_2 l0_2.length c0_2)] 30 (0, 0))) ∧ Aside0 (Below w.heap.size w w'))
 case atStart => exact ⟨(y440), (0), (by first | rfl | (simp; done) | (simp [*]; done)), H', ⟨Nat.le_refl _⟩, ⟨by (with_reducible repeat (first | apply Kd.R_alloc | apply Kd.R_drewN | apply Kd.R_drew)); exact HO442.out⟩, ⟨by (with_reducible repeat (first | refine kN_ ?_ _ | refine kD_ ?_ | refine kA_ ?_ _)); exact BK439.out⟩, ⟨by repeat (first | (with_reducible first | exact HB.out | apply bA_ | apply bN_ | apply bD_ | refine bS_ ?_ GE439.out) | exact HB.out)⟩⟩
 case round =>
  clear H'
  try clear c1
  try clear p2
  try clear p6
  try clear hcz6_0
  try clear hcz6_1
  try clear hcz6_2
  try clear hfz6_0
  try clear hfz6_1
  try clear hfz6_2
  obtain ⟨x5_1, x12_1, rfl, HA, HK1, HO_5, BK439, HB⟩ := hrel
  cases gk with
  | zero => exact absurd HA.out (by simp [impl_Square_cells_at_impl_OpenCells_1.l0])
  | succ k1 =>
   have H := HA.out; clear HA; simp only [impl_Square_cells_at_impl_OpenCells_1.l0] at H
   by_cases c7 : x12_1 < (wrap64 (a0_1))
   ·
    rw [if_pos c7] at H; have c7b0 : decide (x12_1 < (wrap64 (a0_1))) = true := decide_eq_true c7; clear c7; have H' := am_ H; clear H; have hcz8_0 : wr.cell? ⟨gb439, 0, none⟩ = some (.int .i8 a0_0) := (kC_ BK439.out 0).trans rfl; have hcz8_1 : wr.cell? ⟨gb439, 1, none⟩ = some (.int .i8 a0_1) := (kC_ BK439.out 1).trans rfl; have hcz8_2 : wr.cell? ⟨gb439, 2, none⟩ = some (.slice A0_2 l0_2.length c0_2) := (kC_ BK439.out 2).trans rfl; have hfz8_0 := kF_ BK439.out 0; have hfz8_1 := kF_ BK439.out 1; have hfz8_2 := kF_ BK439.out 2
    go_wp2
    go_loopg [5, 18] k1 (fun kq v5 v18 w' => ∃ (x5_2 : List (S46)) (x18_2 : Int), v18 = .int .i64 x18_2 ∧ Aside0 (impl_Square_cells_at_impl_OpenCells_1.l1 kq x5_2 x12_1 (wrap64 (a0_1)) x12_1 (wrap64 (a0_0)) x18_2 l1_0 a0_0 a0_1 l0_2 = some r) ∧ Aside0 (kq ≤ k1) ∧ Aside0 (Kd.R k46 46 w' w.heap.size (fun _ => True) v5 x5_2) ∧ Aside0 (w'.heap[gb439]? = some (.cells #[.int .i8 a0_0, .int .i8 a0_1, (.slice A0_2 l0_2.length c0_2)] 30 (0, 0))) ∧ Aside0 (Below w.heap.size w w'))
    case atStart => exact ⟨(x5_1), (0), (by first | rfl | (simp; done) | (simp [*]; done)), H', ⟨Nat.le_refl _⟩, ⟨by (with_reducible repeat (first | apply Kd.R_alloc | apply Kd.R_drewN | apply Kd.R_drew)); exact HO_5.out⟩, ⟨by (with_reducible repeat (first | refine kN_ ?_ _ | refine kD_ ?_ | refine kA_ ?_ _)); exact BK439.out⟩, ⟨by repeat (first | (with_reducible first | exact HB.out | apply bA_ | apply bN_ | apply bD_ | refine bS_ ?_ GE439.out) | exact HB.out)⟩⟩
    case round =>
     clear H'
     try clear c1
     try clear p2
     try clear p6
     try clear c7
     try clear c7b0
     try clear hcz6_0
     try clear hcz6_1
     try clear hcz6_2
     try clear hcz8_0
     try clear hcz8_1
     try clear hcz8_2
     try clear hfz6_0
     try clear hfz6_1
     try clear hfz6_2
     try clear hfz8_0
     try clear hfz8_1
     try clear hfz8_2
     try clear p2
     try clear p6
     obtain ⟨x5_2, x18_2, rfl, HA, HK2, HO_5, BK439, HB⟩ := hrel
     cases gk with
     | zero => exact absurd HA.out (by simp [impl_Square_cells_at_impl_OpenCells_1.l1])
     | succ k2 =>
      have H := HA.out; clear HA; simp only [impl_Square_cells_at_impl_OpenCells_1.l1] at H
      by_cases c9 : x18_2 < (wrap64 (a0_0))
      ·
       rw [if_pos c9] at H; have c9b0 : decide (x18_2 < (wrap64 (a0_0))) = true := decide_eq_true c9; clear c9; replace H := Option.bind_eq_some_iff.mp H; obtain ⟨t443, A100, H⟩ := H; replace H : (if t443 = true then (if x5_2.length < 70368744177664 then (impl_Square_cells_at_impl_OpenCells_1.l1 k2 (x5_2 ++ [(⟨IntKind.i8.wrap (x18_2), IntKind.i8.wrap (x12_1)⟩ : S46)]) x12_1 (wrap64 (a0_1)) x12_1 (wrap64 (a0_0)) (wrap64 (x18_2 + 1)) l1_0 a0_0 a0_1 l0_2) else (none)) else (impl_Square_cells_at_impl_OpenCells_1.l1 k2 x5_2 x12_1 (wrap64 (a0_1)) x12_1 (wrap64 (a0_0)) (wrap64 (x18_2 + 1)) l1_0 a0_0 a0_1 l0_2)) = some r := H; have A10 := am_ A100; clear A100
       by_cases c11 : t443 = true
       ·
        subst c11; have H1 : (if x5_2.length < 70368744177664 then (impl_Square_cells_at_impl_OpenCells_1.l1 k2 (x5_2 ++ [(⟨IntKind.i8.wrap (x18_2), IntKind.i8.wrap (x12_1)⟩ : S46)]) x12_1 (wrap64 (a0_1)) x12_1 (wrap64 (a0_0)) (wrap64 (x18_2 + 1)) l1_0 a0_0 a0_1 l0_2) else (none)) = some r := by rw [if_pos rfl] at H; exact H
        clear H; have H := H1; clear H1
        by_cases c12 : x5_2.length < 70368744177664
        ·
         rw [if_pos c12] at H; have LMc12 := am_ c12; clear c12; obtain ⟨y444, hy444⟩ : ∃ y_ : List (S46), y_ = (x5_2 ++ [(⟨IntKind.i8.wrap (x18_2), IntKind.i8.wrap (x12_1)⟩ : S46)]) := ⟨_, rfl⟩
         replace H : (impl_Square_cells_at_impl_OpenCells_1.l1 k2 y444 x12_1 (wrap64 (a0_1)) x12_1 (wrap64 (a0_0)) (wrap64 (x18_2 + 1)) l1_0 a0_0 a0_1 l0_2) = some r := by first | (rw [hy444]; with_reducible exact H) | (have H2_ := (Option.bind_some _ _).symm.trans H; rw [hy444]; with_reducible exact H2_) | (have H2_ := (Option.bind_some _ _).symm.trans H; with_reducible exact H2_) | with_reducible exact H | (rw [hy444]; exact H) | exact H
         have Ny444 := am_ hy444; clear hy444; have H' := am_ H; clear H
         go_wp2_with (first | (go_at_call 59; (with_reducible refine (impl_OpenCells_1.calls k2 x18_2 x12_1 _ c1_0 l1_0 true _ ?side1 ?side2 A10.out).mono ?_); (case side1 => repeat (first | exact (Kd.C_below HR1_0.out HB.out) | (with_reducible refine Kd.C_alloc ?_ _) | (with_reducible refine Kd.C_drewN ?_ _) | (with_reducible refine Kd.C_drew ?_))); (case side2 => exact HC1_0.out); rintro e w13 ⟨rfl, hb⟩; have n0_ := am_ (Kd.R_below (by (with_reducible repeat (first | apply Kd.R_alloc | apply Kd.R_drewN | apply Kd.R_drew)); exact HO_5.out) hb); have n1_ := am_ (blk_below (g := gb439) (o := .cells #[.int .i8 a0_0, .int .i8 a0_1, .slice A0_2 l0_2.length c0_2] 30 (0, 0)) (by (with_reducible repeat (first | refine kN_ ?_ _ | refine kD_ ?_ | refine kA_ ?_ _)); exact BK439.out) hb); have n2_ := am_ (bT_ (by repeat (first | (with_reducible first | exact HB.out | apply bA_ | apply bN_ | apply bD_ | refine bS_ ?_ GE439.out) | exact HB.out)) hb); clear HO_5; clear BK439; clear HB; have HO_5 := n0_; have BK439 := n1_; have HB := n2_; clear n0_ n1_ n2_; (try clear hb); (try clear hb2); (try clear hk); (try clear hi)) | ((with_reducible refine gate_builtin (b := .append) (xs := #[.tmp 25, .tmp 31]) rfl ?_); at_builtin; refine Kd.R_append k46 (w0 := w) w.heap.size rfl (.tmp 25) (.tmp 31) 49 46 (.agg #[(.int .i8 0), (.int .i8 0)]) 2 rfl Try.underlying49 info46 rfl (by decide) (by omega) u5 x5_2 (⟨IntKind.i8.wrap (x18_2), IntKind.i8.wrap (x12_1)⟩ : S46) [.int .i8 (IntKind.i8.wrap (x18_2)), .int .i8 (IntKind.i8.wrap (x12_1))] (fun _ => True) (fun _ => False) rfl rfl ?aP (fun _ hk => hk.elim) ?aF ?aO ?aB ?aS ?aL ?_; (case aP => exact k46_mkM _ _ _ (⟨IntKind.i8.wrap (x18_2), IntKind.i8.wrap (x12_1)⟩ : S46)); (case aB => exact (by repeat (first | (with_reducible first | exact HB.out | apply bA_ | apply bN_ | apply bD_ | refine bS_ ?_ GE439.out) | exact HB.out))); (case aF => exact (fun _ _ => trivial)); (case aO => exact (by (with_reducible repeat (first | apply Kd.R_alloc | apply Kd.R_drewN | apply Kd.R_drew)); exact HO_5.out)); (case aS => exact (below_size (by repeat (first | (with_reducible first | exact HB.out | apply bA_ | apply bN_ | apply bD_ | refine bS_ ?_ GE439.out) | exact HB.out)))); (case aL => have := LMc12.out; omega); intro v445 w14 ho hb hg hat; rw [← Ny444.out] at ho; have n0_ := am_ (blk_grown (g := gb439) (o := .cells #[.int .i8 a0_0, .int .i8 a0_1, .slice A0_2 l0_2.length c0_2] 30 (0, 0)) (by (with_reducible repeat (first | refine kN_ ?_ _ | refine kD_ ?_ | refine kA_ ?_ _)); exact BK439.out) hg (Kd.R_ne HO_5.out BK439.out (by decide))); have n1_ := am_ (hb); have n2_ := am_ (ho); clear BK439; clear HB; clear HO_5; have BK439 := n0_; have HB := n1_; have HO446 := n2_; clear n0_ n1_ n2_; clear ho hb hg hat))
         go_roundg k2
         case measure => have := HK1.out; have := HK2.out; omega
         case rel => exact ⟨(y444), (wrap64 (x18_2 + 1)), (by first | rfl | (simp; done) | (simp [*]; done)), H', ⟨by have := HK1.out; have := HK2.out; omega⟩, ⟨by (with_reducible repeat (first | apply Kd.R_alloc | apply Kd.R_drewN | apply Kd.R_drew)); exact HO446.out⟩, ⟨by (with_reducible repeat (first | refine kN_ ?_ _ | refine kD_ ?_ | refine kA_ ?_ _)); exact BK439.out⟩, ⟨by repeat (first | (with_reducible first | exact HB.out | apply bA_ | apply bN_ | apply bD_ | refine bS_ ?_ GE439.out) | exact HB.out)⟩⟩
        ·
         rw [if_neg c12] at H; exact absurd H (by simp)
       ·
        replace c11 := Bool.eq_false_iff.mpr c11; subst c11; have H1 : (impl_Square_cells_at_impl_OpenCells_1.l1 k2 x5_2 x12_1 (wrap64 (a0_1)) x12_1 (wrap64 (a0_0)) (wrap64 (x18_2 + 1)) l1_0 a0_0 a0_1 l0_2) = some r := by rw [if_neg (show ¬ (false = true) by decide)] at H; exact H
        clear H; have H := H1; clear H1; have H' := am_ H; clear H
        go_wp2_with (first | (go_at_call 59; (with_reducible refine (impl_OpenCells_1.calls k2 x18_2 x12_1 _ c1_0 l1_0 false _ ?side1 ?side2 A10.out).mono ?_); (case side1 => repeat (first | exact (Kd.C_below HR1_0.out HB.out) | (with_reducible refine Kd.C_alloc ?_ _) | (with_reducible refine Kd.C_drewN ?_ _) | (with_reducible refine Kd.C_drew ?_))); (case side2 => exact HC1_0.out); rintro e w15 ⟨rfl, hb⟩; have n0_ := am_ (Kd.R_below (by (with_reducible repeat (first | apply Kd.R_alloc | apply Kd.R_drewN | apply Kd.R_drew)); exact HO_5.out) hb); have n1_ := am_ (blk_below (g := gb439) (o := .cells #[.int .i8 a0_0, .int .i8 a0_1, .slice A0_2 l0_2.length c0_2] 30 (0, 0)) (by (with_reducible repeat (first | refine kN_ ?_ _ | refine kD_ ?_ | refine kA_ ?_ _)); exact BK439.out) hb); have n2_ := am_ (bT_ (by repeat (first | (with_reducible first | exact HB.out | apply bA_ | apply bN_ | apply bD_ | refine bS_ ?_ GE439.out) | exact HB.out)) hb); clear HO_5; clear BK439; clear HB; have HO_5 := n0_; have BK439 := n1_; have HB := n2_; clear n0_ n1_ n2_; (try clear hb); (try clear hb2); (try clear hk); (try clear hi)))
        go_roundg k2
        case measure => have := HK1.out; have := HK2.out; omega
        case rel => exact ⟨(x5_2), (wrap64 (x18_2 + 1)), (by first | rfl | (simp; done) | (simp [*]; done)), H', ⟨by have := HK1.out; have := HK2.out; omega⟩, ⟨by (with_reducible repeat (first | apply Kd.R_alloc | apply Kd.R_drewN | apply Kd.R_drew)); exact HO_5.out⟩, ⟨by (with_reducible repeat (first | refine kN_ ?_ _ | refine kD_ ?_ | refine kA_ ?_ _)); exact BK439.out⟩, ⟨by repeat (first | (with_reducible first | exact HB.out | apply bA_ | apply bN_ | apply bD_ | refine bS_ ?_ GE439.out) | exact HB.out)⟩⟩
      ·
       rw [if_neg c9] at H; have c9b0 : decide (x18_2 < (wrap64 (a0_0))) = false := decide_eq_false c9; clear c9; have H' := am_ H; clear H
       go_wp2
       go_roundg k2
       case measure => have := HK1.out; have := HK2.out; omega
       case rel => exact ⟨(x5_2), (wrap64 (x12_1 + 1)), (by first | rfl | (simp; done) | (simp [*]; done)), H', ⟨by have := HK1.out; have := HK2.out; omega⟩, ⟨by (with_reducible repeat (first | apply Kd.R_alloc | apply Kd.R_drewN | apply Kd.R_drew)); exact HO_5.out⟩, ⟨by (with_reducible repeat (first | refine kN_ ?_ _ | refine kD_ ?_ | refine kA_ ?_ _)); exact BK439.out⟩, ⟨by repeat (first | (with_reducible first | exact HB.out | apply bA_ | apply bN_ | apply bD_ | refine bS_ ?_ GE439.out) | exact HB.out)⟩⟩
   ·
    rw [if_neg c7] at H; have c7b0 : decide (x12_1 < (wrap64 (a0_1))) = false := decide_eq_false c7; clear c7; obtain rfl := Option.some.inj H
    go_wp2
    go_ret
    exact ⟨_, by first | rfl | (simp [errW_none, errW_some] <;> rfl) | (simp [*, errW_none, errW_some] <;> rfl), by (with_reducible repeat (first | apply Kd.R_alloc | apply Kd.R_drewN | apply Kd.R_drew)); exact HO_5.out, by repeat (first | (with_reducible first | exact HB.out | apply bA_ | apply bN_ | apply bD_ | refine bS_ ?_ GE439.out) | exact HB.out)⟩
end Go.Proofs.Ytpelelodjigijaa.Q
