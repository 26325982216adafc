-- By a program of this session's: of the print's words what this claim needs. Lean checks it.
import Derived.Test.YtpbobnpmiafbbaaXQ0
import Derived.Test.YtpbobnpmiafbbaaXQ1
import Derived.Test.YtpbobnpmiafbbaaXQ12
import Derived.Test.YtpbobnpmiafbbaaXQ3
import Derived.Test.YtpbobnpmiafbbaaXQ4
import Derived.Test.YtpbobnpmiafbbaaXQ9
namespace Go.Proofs.Ytpbobnpmiafbbaa.Q
open Go.RowKit Go.Proofs.YtpbobnpmiafbbaaW.PrintWords Go.Proofs.YtpbobnpmiafbbaaW.PrintLast Go.Proofs.YtpbobnpmiafbbaaW.PrintMore
attribute [local go_sem] max2_int min2_int max_two min_two max_three min_three max_four min_four
set_option linter.unusedVariables false
set_option linter.unusedSimpArgs false
mutual
def impl_FewestSorts.j0 : Nat → List (S68) → List Int → Bool → Int → Option (Int × Int)
 | 0, _, _, _, _ => none
 | k + 1, x0, x1, x17, x659000 => if x17 = true then (some (0, 2)) else (if (x1.length : Int) > 8 then (some (0, 3)) else (impl_FewestSorts.l0 k x0 x1 (-1) (shl .i64 1 (x0.length : Int)) 0 x659000))
def impl_FewestSorts.l0 : Nat → List (S68) → List Int → Int → Int → Int → Int → Option (Int × Int)
 | 0, _, _, _, _, _, _ => none
 | k + 1, x0, x1, x8, x31, x32, x659000 => if x32 < x31 then (impl_FewestSorts.l1 k x0 x1 x8 x32 x31 x32 x0 (x0.length : Int) 0 x659000 (([] : List (S68)))) else (if x8 < 0 then (some (0, 6)) else (some (x8, 0)))
def impl_FewestSorts.l1 : Nat → List (S68) → List Int → Int → Int → Int → Int → List (S68) → Int → Int → Int → List (S68) → Option (Int × Int)
 | 0, _, _, _, _, _, _, _, _, _, _, _ => none
 | k + 1, x0, x1, x8, x9, x31, x32, x36, x37, x38, x659000, x666000 => if x38 < x37 then (if 0 ≤ x38 then (if x38 < (x36.length : Int) then (if (Go.bits .and .i64 (shr .i64 x9 x38) 1) = 1 then (if x666000.length < 35184372088832 then (impl_FewestSorts.l1 k x0 x1 x8 x9 x31 x32 x36 x37 (wrap64 (x38 + 1)) x659000 (x666000 ++ [(⟨(rd_T68 x36 x38).f0, (rd_T68 x36 x38).f1⟩ : S68)])) else (none)) else (impl_FewestSorts.l1 k x0 x1 x8 x9 x31 x32 x36 x37 (wrap64 (x38 + 1)) x659000 x666000)) else (none)) else (none)) else (if x8 ≥ 0 then ((impl_Sett_74.f x666000).bind fun t671 => (impl_FewestSorts.j3 k x0 x1 x8 x31 x32 (decide (t671 ≥ x8)) x659000 x666000)) else (impl_FewestSorts.j3 k x0 x1 x8 x31 x32 false x659000 x666000))
def impl_FewestSorts.j3 : Nat → List (S68) → List Int → Int → Int → Int → Bool → Int → List (S68) → Option (Int × Int)
 | 0, _, _, _, _, _, _, _, _ => none
 | k + 1, x0, x1, x8, x31, x32, x60, x659000, x666000 => if x60 = true then (impl_FewestSorts.l0 k x0 x1 x8 x31 (wrap64 (x32 + 1)) x659000) else ((slices_ContainsFunc_int64_int64_at_impl_FewestSorts_2.f k x1 [x666000] [x659000]).bind fun t672 => (if t672 = true then (impl_FewestSorts.l0 k x0 x1 x8 x31 (wrap64 (x32 + 1)) x659000) else ((impl_Sett_74.f x666000).bind fun t673 => (impl_FewestSorts.l0 k x0 x1 t673 x31 (wrap64 (x32 + 1)) x659000))))
end
def impl_FewestSorts.f (k : Nat) (l0 : List (S68)) (l1 : List Int) (a2 : Int) : Option (Int × Int) := (impl_ValidSetts.f k l0).bind fun t659 => (if t659 = true then ((impl_within.f a2 0 5).bind fun t660 => (if t660 = true then ((slices_ContainsFunc_int64_int64_at_impl_FewestSorts_1.f k l1).bind fun t661 => (impl_FewestSorts.j0 k l0 l1 t661 a2)) else (impl_FewestSorts.j0 k l0 l1 true a2))) else (some (0, 1)))
theorem impl_FewestSorts.mono_l : ∀ k, (∀ y0 y1 y2 y3, LeO (impl_FewestSorts.j0 k y0 y1 y2 y3) (impl_FewestSorts.j0 (k + 1) y0 y1 y2 y3)) ∧ (∀ y0 y1 y2 y3 y4 y5, LeO (impl_FewestSorts.l0 k y0 y1 y2 y3 y4 y5) (impl_FewestSorts.l0 (k + 1) y0 y1 y2 y3 y4 y5)) ∧ (∀ y0 y1 y2 y3 y4 y5 y6 y7 y8 y9 y10, LeO (impl_FewestSorts.l1 k y0 y1 y2 y3 y4 y5 y6 y7 y8 y9 y10) (impl_FewestSorts.l1 (k + 1) y0 y1 y2 y3 y4 y5 y6 y7 y8 y9 y10)) ∧ (∀ y0 y1 y2 y3 y4 y5 y6 y7, LeO (impl_FewestSorts.j3 k y0 y1 y2 y3 y4 y5 y6 y7) (impl_FewestSorts.j3 (k + 1) y0 y1 y2 y3 y4 y5 y6 y7))
 | 0 => ⟨fun _ _ _ _ r h => by simp [impl_FewestSorts.j0] at h, fun _ _ _ _ _ _ r h => by simp [impl_FewestSorts.l0] at h, fun _ _ _ _ _ _ _ _ _ _ _ r h => by simp [impl_FewestSorts.l1] at h, fun _ _ _ _ _ _ _ _ r h => by simp [impl_FewestSorts.j3] at h⟩
 | k + 1 => by
  obtain ⟨ih0, ih1, ih2, ih3⟩ := impl_FewestSorts.mono_l k; refine ⟨?_, ?_, ?_, ?_⟩
  ·
   intro y0 y1 y2 y3
   unfold impl_FewestSorts.j0
   repeat' first
   | (with_reducible exact ih0 _ _ _ _)
   | (with_reducible exact ih1 _ _ _ _ _ _)
   | (with_reducible exact ih2 _ _ _ _ _ _ _ _ _ _ _)
   | (with_reducible exact ih3 _ _ _ _ _ _ _ _)
   | (with_reducible exact impl_ValidSetts.mono _ _)
   | (with_reducible exact slices_ContainsFunc_int64_int64_at_impl_FewestSorts_1.mono _ _)
   | (with_reducible exact slices_ContainsFunc_int64_int64_at_impl_FewestSorts_2.mono _ _ _ _)
   | (with_reducible exact LeO.refl _)
   | (with_reducible exact LeO.none _)
   | (with_reducible refine LeO.ite ?_ ?_)
   | (with_reducible refine LeO.bind ?_ (fun _ => ?_))
   | exact ih0 _ _ _ _
   | exact ih1 _ _ _ _ _ _
   | exact ih2 _ _ _ _ _ _ _ _ _ _ _
   | exact ih3 _ _ _ _ _ _ _ _
   | exact impl_ValidSetts.mono _ _
   | exact slices_ContainsFunc_int64_int64_at_impl_FewestSorts_1.mono _ _
   | exact slices_ContainsFunc_int64_int64_at_impl_FewestSorts_2.mono _ _ _ _
   | exact LeO.none _
   | refine LeO.ite ?_ ?_
   | refine LeO.bind ?_ (fun _ => ?_)
  ·
   intro y0 y1 y2 y3 y4 y5
   unfold impl_FewestSorts.l0
   repeat' first
   | (with_reducible exact ih0 _ _ _ _)
   | (with_reducible exact ih1 _ _ _ _ _ _)
   | (with_reducible exact ih2 _ _ _ _ _ _ _ _ _ _ _)
   | (with_reducible exact ih3 _ _ _ _ _ _ _ _)
   | (with_reducible exact impl_ValidSetts.mono _ _)
   | (with_reducible exact slices_ContainsFunc_int64_int64_at_impl_FewestSorts_1.mono _ _)
   | (with_reducible exact slices_ContainsFunc_int64_int64_at_impl_FewestSorts_2.mono _ _ _ _)
   | (with_reducible exact LeO.refl _)
   | (with_reducible exact LeO.none _)
   | (with_reducible refine LeO.ite ?_ ?_)
   | (with_reducible refine LeO.bind ?_ (fun _ => ?_))
   | exact ih0 _ _ _ _
   | exact ih1 _ _ _ _ _ _
   | exact ih2 _ _ _ _ _ _ _ _ _ _ _
   | exact ih3 _ _ _ _ _ _ _ _
   | exact impl_ValidSetts.mono _ _
   | exact slices_ContainsFunc_int64_int64_at_impl_FewestSorts_1.mono _ _
   | exact slices_ContainsFunc_int64_int64_at_impl_FewestSorts_2.mono _ _ _ _
   | exact LeO.none _
   | refine LeO.ite ?_ ?_
   | refine LeO.bind ?_ (fun _ => ?_)
  ·
   intro y0 y1 y2 y3 y4 y5 y6 y7 y8 y9 y10
   unfold impl_FewestSorts.l1
   repeat' first
   | (with_reducible exact ih0 _ _ _ _)
   | (with_reducible exact ih1 _ _ _ _ _ _)
   | (with_reducible exact ih2 _ _ _ _ _ _ _ _ _ _ _)
   | (with_reducible exact ih3 _ _ _ _ _ _ _ _)
   | (with_reducible exact impl_ValidSetts.mono _ _)
   | (with_reducible exact slices_ContainsFunc_int64_int64_at_impl_FewestSorts_1.mono _ _)
   | (with_reducible exact slices_ContainsFunc_int64_int64_at_impl_FewestSorts_2.mono _ _ _ _)
   | (with_reducible exact LeO.refl _)
   | (with_reducible exact LeO.none _)
   | (with_reducible refine LeO.ite ?_ ?_)
   | (with_reducible refine LeO.bind ?_ (fun _ => ?_))
   | exact ih0 _ _ _ _
   | exact ih1 _ _ _ _ _ _
   | exact ih2 _ _ _ _ _ _ _ _ _ _ _
   | exact ih3 _ _ _ _ _ _ _ _
   | exact impl_ValidSetts.mono _ _
   | exact slices_ContainsFunc_int64_int64_at_impl_FewestSorts_1.mono _ _
   | exact slices_ContainsFunc_int64_int64_at_impl_FewestSorts_2.mono _ _ _ _
   | exact LeO.none _
   | refine LeO.ite ?_ ?_
   | refine LeO.bind ?_ (fun _ => ?_)
  ·
   intro y0 y1 y2 y3 y4 y5 y6 y7
   unfold impl_FewestSorts.j3
   repeat' first
   | (with_reducible exact ih0 _ _ _ _)
   | (with_reducible exact ih1 _ _ _ _ _ _)
   | (with_reducible exact ih2 _ _ _ _ _ _ _ _ _ _ _)
   | (with_reducible exact ih3 _ _ _ _ _ _ _ _)
   | (with_reducible exact impl_ValidSetts.mono _ _)
   | (with_reducible exact slices_ContainsFunc_int64_int64_at_impl_FewestSorts_1.mono _ _)
   | (with_reducible exact slices_ContainsFunc_int64_int64_at_impl_FewestSorts_2.mono _ _ _ _)
   | (with_reducible exact LeO.refl _)
   | (with_reducible exact LeO.none _)
   | (with_reducible refine LeO.ite ?_ ?_)
   | (with_reducible refine LeO.bind ?_ (fun _ => ?_))
   | exact ih0 _ _ _ _
   | exact ih1 _ _ _ _ _ _
   | exact ih2 _ _ _ _ _ _ _ _ _ _ _
   | exact ih3 _ _ _ _ _ _ _ _
   | exact impl_ValidSetts.mono _ _
   | exact slices_ContainsFunc_int64_int64_at_impl_FewestSorts_1.mono _ _
   | exact slices_ContainsFunc_int64_int64_at_impl_FewestSorts_2.mono _ _ _ _
   | exact LeO.none _
   | refine LeO.ite ?_ ?_
   | refine LeO.bind ?_ (fun _ => ?_)
theorem impl_FewestSorts.mono : ∀ a0 a1 a2 k, LeO (impl_FewestSorts.f k a0 a1 a2) (impl_FewestSorts.f (k + 1) a0 a1 a2) := by
 intro a0 a1 a2 k; obtain ⟨ih0, ih1, ih2, ih3⟩ := impl_FewestSorts.mono_l k
 unfold impl_FewestSorts.f
 repeat' first
   | (with_reducible exact ih0 _ _ _ _)
   | (with_reducible exact ih1 _ _ _ _ _ _)
   | (with_reducible exact ih2 _ _ _ _ _ _ _ _ _ _ _)
   | (with_reducible exact ih3 _ _ _ _ _ _ _ _)
   | (with_reducible exact impl_ValidSetts.mono _ _)
   | (with_reducible exact slices_ContainsFunc_int64_int64_at_impl_FewestSorts_1.mono _ _)
   | (with_reducible exact slices_ContainsFunc_int64_int64_at_impl_FewestSorts_2.mono _ _ _ _)
   | (with_reducible exact LeO.refl _)
   | (with_reducible exact LeO.none _)
   | (with_reducible refine LeO.ite ?_ ?_)
   | (with_reducible refine LeO.bind ?_ (fun _ => ?_))
   | exact ih0 _ _ _ _
   | exact ih1 _ _ _ _ _ _
   | exact ih2 _ _ _ _ _ _ _ _ _ _ _
   | exact ih3 _ _ _ _ _ _ _ _
   | exact impl_ValidSetts.mono _ _
   | exact slices_ContainsFunc_int64_int64_at_impl_FewestSorts_1.mono _ _
   | exact slices_ContainsFunc_int64_int64_at_impl_FewestSorts_2.mono _ _ _ _
   | exact LeO.none _
   | refine LeO.ite ?_ ?_
   | refine LeO.bind ?_ (fun _ => ?_)
set_option maxHeartbeats 8000000 in
set_option maxRecDepth 100000 in
theorem impl_FewestSorts.calls (k : Nat) (A0 : Option Addr) (c0 : Nat) (l0 : List (S68)) (A1 : Option Addr) (c1 : Nat) (l1 : List Int) (a2 : Int) (r1 : Int) (r2 : Int) (w : World) (hr0 : Kd.C k68 w A0 l0.length l0) (hc0 : l0.length ≤ c0) (hr1 : Kd.C (Kd.int .i64) w A1 l1.length l1) (hc1 : l1.length ≤ c1) (h : impl_FewestSorts.f k l0 l1 a2 = some (r1, r2)) :
  Calls Try.prog 39 #[.slice A0 l0.length c0, .slice A1 l1.length c1, .int .i64 a2] w fun e w' => e = .returned (.tuple #[.int .i64 r1, .int .i64 r2]) ∧ Below w.heap.size w w' := by
 have hu68 := Try.underlying68; have HR0 := am_ hr0; have HC0 := am_ hc0; clear hr0 hc0; have HR1 := am_ hr1; have HC1 := am_ hc1; clear hr1 hc1; have HB := am_ (Below.refl w.heap.size w); have H : ((impl_ValidSetts.f k l0).bind fun t659 => (if t659 = true then ((impl_within.f a2 0 5).bind fun t660 => (if t660 = true then ((slices_ContainsFunc_int64_int64_at_impl_FewestSorts_1.f k l1).bind fun t661 => (impl_FewestSorts.j0 k l0 l1 t661 a2)) else (impl_FewestSorts.j0 k l0 l1 true a2))) else (some (0, 1)))) = some (r1, r2) := h; clear h; replace H := Option.bind_eq_some_iff.mp H; obtain ⟨t659, A40, H⟩ := H; replace H : (if t659 = true then ((impl_within.f a2 0 5).bind fun t660 => (if t660 = true then ((slices_ContainsFunc_int64_int64_at_impl_FewestSorts_1.f k l1).bind fun t661 => (impl_FewestSorts.j0 k l0 l1 t661 a2)) else (impl_FewestSorts.j0 k l0 l1 true a2))) else (some (0, 1))) = some (r1, r2) := H; have A4 := am_ A40; clear A40
 by_cases c5 : t659 = true
 ·
  subst c5; have H1 : ((impl_within.f a2 0 5).bind fun t660 => (if t660 = true then ((slices_ContainsFunc_int64_int64_at_impl_FewestSorts_1.f k l1).bind fun t661 => (impl_FewestSorts.j0 k l0 l1 t661 a2)) else (impl_FewestSorts.j0 k l0 l1 true a2))) = some (r1, r2) := by rw [if_pos rfl] at H; exact H
  clear H; have H := H1; clear H1; have HC6 := am_ H; clear H
  go_enter Try.func39, Try.ntmps39
  go_upto_region 3 with (first | ((with_reducible refine gate_dst (N := 5) rfl ?_); refine box_event ?hg (N := 5) ?hd (cs := #[.int .i64 a2]) (t := 2) ?hr ?_; (case hd => rfl); (case hg => rfl); (case hr => first | (go_simp; done) | (go_simp; rfl)); intro gb658 hg w7 hbox hb; have n0_ := am_ (bT_ (by repeat (first | (with_reducible first | exact HB.out | apply bA_ | apply bN_ | apply bD_) | exact HB.out)) hb); have n1_ := am_ (hbox); have n2_ := am_ ((by rw [hg]; exact (below_size (by repeat (first | (with_reducible first | exact HB.out | apply bA_ | apply bN_ | apply bD_) | exact HB.out))) : w.heap.size ≤ gb658)); have n3_ := n2_; clear HB; have HB := n0_; have BK658 := n1_; have GW658 := n2_; have GE658 := n3_; clear n0_ n1_ n2_ n3_; clear hb hbox hg) | ((with_reducible refine gate_callee (f := 66) rfl ?_); refine goesL_ (some 15) rfl rfl Try.func66 (by kernel_rfl) rfl #[.slice A0 l0.length c0] rfl (by (try simp only [List.map_toArray, List.map_cons, List.map_nil]); first | done | rfl | (simp only [List.length_drop, List.length_take]; rfl)) ?_; (with_reducible refine (impl_ValidSetts.calls k _ _ l0 true _ ?side1 ?side2 A4.out).mono ?_); (case side1 => repeat (first | exact (Kd.C_below HR0.out HB.out) | (with_reducible refine Kd.C_alloc ?_ _) | (with_reducible refine Kd.C_drewN ?_ _) | (with_reducible refine Kd.C_drew ?_))); (case side2 => exact HC0.out); rintro e w8 ⟨rfl, hb⟩; refine ⟨_, rfl, ?_⟩; have n0_ := am_ (blk_below (g := gb658) (o := .cells #[.int .i64 a2] 2 (0, 0)) (by (with_reducible repeat (first | apply kN_ | apply kD_ | apply kA_)); exact BK658.out) hb); have n1_ := am_ (bT_ (by repeat (first | (with_reducible first | exact HB.out | apply bA_ | apply bN_ | apply bD_ | refine bS_ ?_ GE658.out) | exact HB.out)) hb); clear BK658; clear HB; have BK658 := n0_; have HB := n1_; clear n0_ n1_; (try clear hb); (try clear hb2); (try clear hk); (try clear hi)))
  (try simp only [Act.put, z1_, z2_, z3_])
  go_cut [17] (fun v17 wc => ∃ (kq : Nat) (x17_5 : Bool), v17 = .bool x17_5 ∧ Aside0 (impl_FewestSorts.j0 kq l0 l1 x17_5 a2 = some (r1, r2)) ∧ Aside0 (kq ≤ k) ∧ Aside0 (wc.heap[gb658]? = some (.cells #[.int .i64 a2] 2 (0, 0))) ∧ Aside0 (Below w.heap.size w wc))
  case first =>
   have H := HC6.out; clear HC6; replace H := Option.bind_eq_some_iff.mp H; obtain ⟨t660, A90, H⟩ := H; replace H : (if t660 = true then ((slices_ContainsFunc_int64_int64_at_impl_FewestSorts_1.f k l1).bind fun t661 => (impl_FewestSorts.j0 k l0 l1 t661 a2)) else (impl_FewestSorts.j0 k l0 l1 true a2)) = some (r1, r2) := H; have A9 := am_ A90; clear A90
   by_cases c10 : t660 = true
   ·
    subst c10; have H1 : ((slices_ContainsFunc_int64_int64_at_impl_FewestSorts_1.f k l1).bind fun t661 => (impl_FewestSorts.j0 k l0 l1 t661 a2)) = some (r1, r2) := by rw [if_pos rfl] at H; exact H
    clear H; have H := H1; clear H1; replace H := Option.bind_eq_some_iff.mp H; obtain ⟨t661, A110, H⟩ := H; replace H : (impl_FewestSorts.j0 k l0 l1 t661 a2) = some (r1, r2) := H; have A11 := am_ A110; clear A110; have H' := am_ H; clear H; have hcz12_0 : w8.cell? ⟨gb658, 0, none⟩ = some (.int .i64 a2) := (kC_ BK658.out 0).trans rfl; have hfz12_0 := kF_ BK658.out 0
    go_wp2_with (first | ((with_reducible refine gate_callee (f := 69) rfl ?_); refine goesL_ (some 19) rfl rfl Try.func69 (by kernel_rfl) rfl #[.int .i64 a2, .int .i64 0, .int .i64 5] rfl (by (try simp only [List.map_toArray, List.map_cons, List.map_nil]); first | done | rfl | (simp only [List.length_drop, List.length_take]; rfl)) ?_; (with_reducible refine (impl_within.calls a2 0 5 true _ A9.out).mono ?_); rintro e w' ⟨rfl, ⟨nd, rfl⟩⟩; refine ⟨_, rfl, ?_⟩) | (go_at_call 67; (with_reducible refine (slices_ContainsFunc_int64_int64_at_impl_FewestSorts_1.calls k _ _ l1  t661 _ ?side1 ?side2 A11.out).mono ?_); (case side1 => repeat (first | exact (Kd.C_below HR1.out (by repeat (first | (with_reducible first | exact HB.out | apply bA_ | apply bN_ | apply bD_ | refine bS_ ?_ GE658.out) | exact HB.out))) | (with_reducible refine Kd.C_alloc ?_ _) | (with_reducible refine Kd.C_drewN ?_ _) | (with_reducible refine Kd.C_drew ?_))); (case side2 => exact HC1.out); rintro e w' ⟨rfl, ⟨nd, rfl⟩⟩))
    go_meet
    case rel => exact ⟨_, (t661), (by first | rfl | (simp; done) | (simp [*]; done)), H', ⟨by first | omega | exact Nat.le_refl _⟩, ⟨by (with_reducible repeat (first | apply kN_ | apply kD_ | apply kA_)); exact BK658.out⟩, ⟨by repeat (first | (with_reducible first | exact HB.out | apply bA_ | apply bN_ | apply bD_ | refine bS_ ?_ GE658.out) | exact HB.out)⟩⟩
   ·
    replace c10 := Bool.eq_false_iff.mpr c10; subst c10; have H1 : (impl_FewestSorts.j0 k l0 l1 true a2) = some (r1, r2) := by rw [if_neg (show ¬ (false = true) by decide)] at H; exact H
    clear H; have H := H1; clear H1; have H' := am_ H; clear H; have hcz13_0 : w8.cell? ⟨gb658, 0, none⟩ = some (.int .i64 a2) := (kC_ BK658.out 0).trans rfl; have hfz13_0 := kF_ BK658.out 0
    go_wp2_with (first | ((with_reducible refine gate_callee (f := 69) rfl ?_); refine goesL_ (some 19) rfl rfl Try.func69 (by kernel_rfl) rfl #[.int .i64 a2, .int .i64 0, .int .i64 5] rfl (by (try simp only [List.map_toArray, List.map_cons, List.map_nil]); first | done | rfl | (simp only [List.length_drop, List.length_take]; rfl)) ?_; (with_reducible refine (impl_within.calls a2 0 5 false _ A9.out).mono ?_); rintro e w' ⟨rfl, ⟨nd, rfl⟩⟩; refine ⟨_, rfl, ?_⟩))
    go_meet
    case rel => exact ⟨_, (true), (by first | rfl | (simp; done) | (simp [*]; done)), H', ⟨by first | omega | exact Nat.le_refl _⟩, ⟨by (with_reducible repeat (first | apply kN_ | apply kD_ | apply kA_)); exact BK658.out⟩, ⟨by repeat (first | (with_reducible first | exact HB.out | apply bA_ | apply bN_ | apply bD_ | refine bS_ ?_ GE658.out) | exact HB.out)⟩⟩
  case rest =>
   clear HC6; (try clear c1); (try clear p2); (try clear c3); (try clear c5); (try clear c6); (try clear c10); (try clear hcz12_0); (try clear hcz13_0); (try clear hfz12_0); (try clear hfz13_0); obtain ⟨kq, x17_5, rfl, HA, HJ5, BK658, HB⟩ := hcut
   cases kq with
   | zero => exact absurd HA.out (by simp [impl_FewestSorts.j0])
   | succ kj5 =>
    have H := HA.out; clear HA; simp only [impl_FewestSorts.j0] at H
    by_cases c14 : x17_5 = true
    ·
     subst c14; have H1 : (some (0, 2)) = some (r1, r2) := by rw [if_pos rfl] at H; exact H
     clear H; have H := H1; clear H1; simp only [Option.some.injEq, Prod.mk.injEq] at H; obtain ⟨rfl, rfl⟩ := H
     go_wp2
     go_ret2
     exact ⟨by first | rfl | (simp [errW_none, errW_some] <;> rfl) | (simp [*, errW_none, errW_some] <;> rfl), by repeat (first | (with_reducible first | exact HB.out | apply bA_ | apply bN_ | apply bD_ | refine bS_ ?_ GE658.out) | exact HB.out)⟩
    ·
     replace c14 := Bool.eq_false_iff.mpr c14; subst c14; have H1 : (if (l1.length : Int) > 8 then (some (0, 3)) else (impl_FewestSorts.l0 kj5 l0 l1 (-1) (shl .i64 1 (l0.length : Int)) 0 a2)) = some (r1, r2) := by rw [if_neg (show ¬ (false = true) by decide)] at H; exact H
     clear H; have H := H1; clear H1
     by_cases c15 : (l1.length : Int) > 8
     ·
      rw [if_pos c15] at H; have c15b0 : decide (8 < (l1.length : Int)) = true := decide_eq_true c15; have c15b1 : decide (8 < l1.length) = true := decide_eq_true (by omega); clear c15; simp only [Option.some.injEq, Prod.mk.injEq] at H; obtain ⟨rfl, rfl⟩ := H
      go_wp2
      go_ret2
      exact ⟨by first | rfl | (simp [errW_none, errW_some] <;> rfl) | (simp [*, errW_none, errW_some] <;> rfl), by repeat (first | (with_reducible first | exact HB.out | apply bA_ | apply bN_ | apply bD_ | refine bS_ ?_ GE658.out) | exact HB.out)⟩
     ·
      rw [if_neg c15] at H; have c15b0 : decide (8 < (l1.length : Int)) = false := decide_eq_false c15; have c15b1 : decide (8 < l1.length) = false := decide_eq_false (by omega); clear c15; obtain ⟨ji16, hji16⟩ : ∃ j_ : Int, (shl .i64 1 (l0.length : Int)) = j_ := ⟨_, rfl⟩
      replace H : (impl_FewestSorts.l0 kj5 l0 l1 (-1) ji16 0 a2) = some (r1, r2) := by first | (rw [hji16] at H; exact H) | (simp only [hji16] at H ⊢; exact H)
      have hji16_ : (IntKind.i64.wrap (1 * 2 ^ min (l0.length : Int).toNat 64)) = ji16 := hji16; have hji16z : (l0.length : Int) ≤ 64 → (IntKind.i64.wrap (1 * 2 ^ (l0.length : Int).toNat)) = ji16 := shl_small hji16; have hji16p : (IntKind.i64.wrap (1 * 2 ^ min l0.length 64)) = ji16 := hji16_; have hji16q : (l0.length : Int) ≤ 64 → (IntKind.i64.wrap (1 * 2 ^ l0.length)) = ji16 := hji16z; have hji16r : (IntKind.i64.wrap (2 ^ min l0.length 64)) = ji16 := by have h_ := hji16p; rw [Int.one_mul] at h_; exact h_
      have hji16s : (l0.length : Int) ≤ 64 → (IntKind.i64.wrap (2 ^ l0.length)) = ji16 := fun hle_ => by have h_ := hji16q hle_; rw [Int.one_mul] at h_; exact h_
      have hji16u : (IntKind.i64.wrap (2 ^ min (l0.length : Int).toNat 64)) = ji16 := by have h_ := hji16_; rw [Int.one_mul] at h_; exact h_
      have hji16v : (l0.length : Int) ≤ 64 → (IntKind.i64.wrap (2 ^ (l0.length : Int).toNat)) = ji16 := fun hle_ => by have h_ := hji16z hle_; rw [Int.one_mul] at h_; exact h_
      have hji16y : (wrap64 (1 * 2 ^ min (l0.length : Int).toNat 64)) = ji16 := (i64_w _).symm.trans hji16_; have hji16x : (l0.length : Int) ≤ 64 → (wrap64 (1 * 2 ^ (l0.length : Int).toNat)) = ji16 := fun h_ => (i64_w _).symm.trans (hji16z h_)
      have H' := am_ H; clear H
      go_wp2
      go_loopg [8, 32] kj5 (fun kq v8 v32 w' => ∃ (x8_2 : Int) (x32_2 : Int), v8 = .int .i64 x8_2 ∧ v32 = .int .i64 x32_2 ∧ Aside0 (impl_FewestSorts.l0 kq l0 l1 x8_2 ji16 x32_2 a2 = some (r1, r2)) ∧ Aside0 (kq ≤ kj5) ∧ Aside0 (w'.heap[gb658]? = some (.cells #[.int .i64 a2] 2 (0, 0))) ∧ Aside0 (Below w.heap.size w w'))
      case atStart => exact ⟨((-1)), (0), (by first | rfl | (simp; done) | (simp [*]; done)), (by first | rfl | (simp; done) | (simp [*]; done)), H', ⟨Nat.le_refl _⟩, ⟨by (with_reducible repeat (first | apply kN_ | apply kD_ | apply kA_)); exact BK658.out⟩, ⟨by repeat (first | (with_reducible first | exact HB.out | apply bA_ | apply bN_ | apply bD_ | refine bS_ ?_ GE658.out) | exact HB.out)⟩⟩
      case round =>
       clear H'; (try clear c1); (try clear p2); (try clear c3); (try clear c5); (try clear c6); (try clear p6); (try clear c10); (try clear c14); (try clear c15); (try clear c15b0); (try clear c15b1); (try clear hcz12_0); (try clear hcz13_0); (try clear hfz12_0); (try clear hfz13_0); (try clear p2); obtain ⟨x8_2, x32_2, rfl, rfl, HA, HK2, BK658, HB⟩ := hrel
       cases gk with
       | zero => exact absurd HA.out (by simp [impl_FewestSorts.l0])
       | succ k2 =>
        have H := HA.out; clear HA; simp only [impl_FewestSorts.l0] at H
        by_cases c17 : x32_2 < ji16
        ·
         rw [if_pos c17] at H; have c17b0 : decide (x32_2 < ji16) = true := decide_eq_true c17; clear c17; obtain ⟨y662, hy662⟩ : ∃ y_ : List (S68), y_ = (([] : List (S68))) := ⟨_, rfl⟩
         replace H : (impl_FewestSorts.l1 k2 l0 l1 x8_2 x32_2 ji16 x32_2 l0 (l0.length : Int) 0 a2 y662) = some (r1, r2) := by first | (rw [hy662]; with_reducible exact H) | (have H2_ := (Option.bind_some _ _).symm.trans H; rw [hy662]; with_reducible exact H2_) | (have H2_ := (Option.bind_some _ _).symm.trans H; with_reducible exact H2_) | with_reducible exact H | (rw [hy662]; exact H) | exact H
         have Ny662 := am_ hy662; clear hy662; have H' := am_ H; clear H
         go_wp2_with (first | ((with_reducible refine gate_dst (N := 35) rfl ?_); refine Kd.R_lit k68 _ 68 ?hg (N := 35) ?hd (xs := ([] : List (S68))) (inner := []) (ok := fun _ => True) (okp := fun _ => True) ?hr ?hp (fun _ hk => hk) trivial (Below.refl _ _) (Nat.le_refl _) (by simp) ?_; (case hd => rfl); (case hg => rfl); (case hr => first | (go_simp; done) | (go_simp; rfl)); (case hp => exact (Reps.none _ _)); intro v663 w18 ho19 hb hg_ hnew_; clear hg_ hnew_; (first | rw [← Ny662.out] at ho19 | (simp only [Int.reduceToNat] at ho19; rw [← Ny662.out] at ho19)); have n0_ := am_ (Kd.R_lower ho19 (below_size (by repeat (first | (with_reducible first | exact HB.out | apply bA_ | apply bN_ | apply bD_ | refine bS_ ?_ GE658.out) | exact HB.out)))); have n1_ := am_ (blk_below (g := gb658) (o := .cells #[.int .i64 a2] 2 (0, 0)) (by (with_reducible repeat (first | apply kN_ | apply kD_ | apply kA_)); exact BK658.out) hb); have n2_ := am_ (bT_ (by repeat (first | (with_reducible first | exact HB.out | apply bA_ | apply bN_ | apply bD_ | refine bS_ ?_ GE658.out) | exact HB.out)) hb); clear BK658; clear HB; have HO664 := n0_; have BK658 := n1_; have HB := n2_; clear n0_ n1_ n2_; clear hb ho19) | ((with_reducible refine gate_dst (N := 10) rfl ?_); refine box_event ?hg (N := 10) ?hd (cs := #[.slice none 0 0]) (t := 39) ?hr ?_; (case hd => rfl); (case hg => rfl); (case hr => first | (go_simp; done) | (go_simp; rfl)); intro gb665 hg w20 hbox hb; have n0_ := am_ (Kd.R_below (by (with_reducible repeat (first | apply Kd.R_alloc | apply Kd.R_drewN | apply Kd.R_drew)); exact HO664.out) hb); have n1_ := am_ (blk_below (g := gb658) (o := .cells #[.int .i64 a2] 2 (0, 0)) (by (with_reducible repeat (first | apply kN_ | apply kD_ | apply kA_)); exact BK658.out) hb); have n2_ := am_ (bT_ (by repeat (first | (with_reducible first | exact HB.out | apply bA_ | apply bN_ | apply bD_ | refine bS_ ?_ GE658.out) | exact HB.out)) hb); have n3_ := am_ (hbox); have n4_ := am_ ((by rw [hg]; exact (below_size (by repeat (first | (with_reducible first | exact HB.out | apply bA_ | apply bN_ | apply bD_ | refine bS_ ?_ GE658.out) | exact HB.out))) : w.heap.size ≤ gb665)); have n5_ := n4_; have n6_ := am_ ((by rw [hg]; exact Nat.ne_of_lt (blk_lt (g := gb658) (o := .cells #[.int .i64 a2] 2 (0, 0)) (by (with_reducible repeat (first | apply kN_ | apply kD_ | apply kA_)); exact BK658.out)) : gb658 ≠ gb665)); have n7_ := am_ ((by rw [hg]; exact Nat.ne_of_gt (blk_lt (g := gb658) (o := .cells #[.int .i64 a2] 2 (0, 0)) (by (with_reducible repeat (first | apply kN_ | apply kD_ | apply kA_)); exact BK658.out)) : gb665 ≠ gb658)); clear HO664; clear BK658; clear HB; have HO664 := n0_; have BK658 := n1_; have HB := n2_; have BK665 := n3_; have GW665 := n4_; have GE665 := n5_; have NB658_665 := n6_; have NB665_658 := n7_; clear n0_ n1_ n2_ n3_ n4_ n5_ n6_ n7_; clear hb hbox hg; obtain ⟨Ao21, co21, eo21⟩ := Kd.R_slice HO664.out; subst eo21; have hnb22 := NB665_658.out; have hnc22 := NB658_665.out; have hcz23_0 : w20.cell? ⟨gb665, 0, none⟩ = some (.slice none 0 0) := (kC_ BK665.out 0).trans rfl; have hfz23_0 := kF_ BK665.out 0))
         go_loopg [38] k2 (fun kq v38 w' => ∃ (x38_3 : Int) (x666000_3 : List (S68)) (u666000 : Value), v38 = .int .i64 x38_3 ∧ Aside0 (impl_FewestSorts.l1 kq l0 l1 x8_2 x32_2 ji16 x32_2 l0 (l0.length : Int) x38_3 a2 x666000_3 = some (r1, r2)) ∧ Aside0 (kq ≤ k2) ∧ Aside0 (Kd.R k68 68 w' w.heap.size (fun _ => True) u666000 x666000_3) ∧ Aside0 (w'.heap[gb658]? = some (.cells #[.int .i64 a2] 2 (0, 0))) ∧ Aside0 (w'.heap[gb665]? = some (.cells #[u666000] 39 (0, 0))) ∧ Aside0 (Below w.heap.size w w'))
         case atStart => exact ⟨(0), (y662), (.slice Ao21 y662.length co21), (by first | rfl | (simp; done) | (simp [*]; done)), H', ⟨Nat.le_refl _⟩, ⟨by (with_reducible repeat (first | apply Kd.R_alloc | apply Kd.R_drewN | apply Kd.R_drew)); exact Kd.R_mono (Kd.R_far (p := ⟨gb665, 0, none⟩) (Kd.R_types HO664.out BK665.out (by decide)) (fun _ hk => hk.2) (.slice Ao21 y662.length co21)) (fun _ hk => trivial)⟩, ⟨by (with_reducible repeat (first | apply kN_ | apply kD_ | apply kA_)); refine blk_far ?_ NB658_665.out _; (with_reducible repeat (first | apply kN_ | apply kD_ | apply kA_)); exact BK658.out⟩, ⟨by (with_reducible repeat (first | apply kN_ | apply kD_ | apply kA_)); refine blk_put (cs := #[.slice none 0 0]) ?_ 0 _ rfl; (with_reducible repeat (first | apply kN_ | apply kD_ | apply kA_)); exact BK665.out⟩, ⟨by repeat (first | (with_reducible first | exact HB.out | apply bA_ | apply bN_ | apply bD_ | refine bS_ ?_ GE658.out | refine bS_ ?_ GE665.out) | exact HB.out)⟩⟩
         case round =>
          clear H'; (try clear c1); (try clear c2); (try clear p2); (try clear c3); (try clear c5); (try clear c6); (try clear p6); (try clear c10); (try clear c14); (try clear c15); (try clear c15b0); (try clear c15b1); (try clear c17); (try clear c17b0); (try clear c22); (try clear hcz12_0); (try clear hcz13_0); (try clear hcz23_0); (try clear hfz12_0); (try clear hfz13_0); (try clear hfz23_0); (try clear p2); (try clear p6); obtain ⟨x38_3, x666000_3, u666000, rfl, HA, HK3, HO_666000, BK658, BK665, HB⟩ := hrel
          cases gk with
          | zero => exact absurd HA.out (by simp [impl_FewestSorts.l1])
          | succ k3 =>
           have H := HA.out; clear HA; simp only [impl_FewestSorts.l1] at H
           by_cases c24 : x38_3 < (l0.length : Int)
           ·
            rw [if_pos c24] at H; have c24b0 : decide (x38_3 < (l0.length : Int)) = true := decide_eq_true c24; clear c24
            by_cases c25 : 0 ≤ x38_3
            ·
             rw [if_pos c25] at H; have c25b0 : decide (0 ≤ x38_3) = true := decide_eq_true c25; clear c25
             by_cases c26 : x38_3 < (l0.length : Int)
             ·
              rw [if_pos c26] at H; have c26b0 : decide (x38_3 < (l0.length : Int)) = true := decide_eq_true c26; clear c26; have c27b0 := eq_true (od_ (by first | (with_reducible assumption) | assumption) : 0 ≤ x38_3); obtain ⟨ji28, hji28⟩ : ∃ j_ : Int, (shr .i64 x32_2 x38_3) = j_ := ⟨_, rfl⟩
              replace H : (if (Go.bits .and .i64 (ji28) 1) = 1 then (if x666000_3.length < 35184372088832 then (impl_FewestSorts.l1 k3 l0 l1 x8_2 x32_2 ji16 x32_2 l0 (l0.length : Int) (wrap64 (x38_3 + 1)) a2 (x666000_3 ++ [(⟨(rd_T68 l0 x38_3).f0, (rd_T68 l0 x38_3).f1⟩ : S68)])) else (none)) else (impl_FewestSorts.l1 k3 l0 l1 x8_2 x32_2 ji16 x32_2 l0 (l0.length : Int) (wrap64 (x38_3 + 1)) a2 x666000_3)) = some (r1, r2) := by first | (rw [hji28] at H; exact H) | (simp only [hji28] at H ⊢; exact H)
              have hji28_ : (x32_2 / 2 ^ min x38_3.toNat 64) = ji28 := hji28; have hji28z : x38_3 ≤ 64 → (x32_2 / 2 ^ x38_3.toNat) = ji28 := shr_small hji28
              by_cases c29 : (Go.bits .and .i64 (ji28) 1) = 1
              ·
               rw [if_pos c29] at H; have c29b0 : ((Go.bits .and .i64 (ji28) 1) == 1) = true := beq_iff_eq.mpr c29; have c29b1 : ((Go.bits .and .i64 (ji28) 1) != 1) = false := bne_eq_false_iff_eq.mpr c29; clear c29
               by_cases c30 : x666000_3.length < 35184372088832
               ·
                rw [if_pos c30] at H; have LMc30 := am_ c30; clear c30; obtain ⟨y668, hy668⟩ : ∃ y_ : List (S68), y_ = (x666000_3 ++ [(⟨(rd_T68 l0 x38_3).f0, (rd_T68 l0 x38_3).f1⟩ : S68)]) := ⟨_, rfl⟩
                replace H : (impl_FewestSorts.l1 k3 l0 l1 x8_2 x32_2 ji16 x32_2 l0 (l0.length : Int) (wrap64 (x38_3 + 1)) a2 y668) = some (r1, r2) := by first | (rw [hy668]; with_reducible exact H) | (have H2_ := (Option.bind_some _ _).symm.trans H; rw [hy668]; with_reducible exact H2_) | (have H2_ := (Option.bind_some _ _).symm.trans H; with_reducible exact H2_) | with_reducible exact H | (rw [hy668]; exact H) | exact H
                have Ny668 := am_ hy668; clear hy668; have H' := am_ H; clear H; have p666 : 0 ≤ (x38_3 : Int) := od_ (by first | (with_reducible assumption) | assumption); have q666 : x38_3 < (l0.length : Int) := od_ (by first | (with_reducible assumption) | assumption); obtain ⟨ad666, e666, hx666_0, hx666_1⟩ := at_T68 HR0.out x38_3 p666 q666
                cases e666
                replace hx666_0 := (HB.out.cell (bl_ w _ hx666_0)).trans hx666_0; replace hx666_1 := (HB.out.cell (bl_ w _ hx666_1)).trans hx666_1; replace p666 := eq_true p666; replace q666 := eq_true q666
                go_wp2_with (first | ((with_reducible refine gate_dst (N := 12) rfl ?_); refine box_event ?hg (N := 12) ?hd (cs := #[.int .i8 0, .int .i16 0]) (t := 68) ?hr ?_; (case hd => rfl); (case hg => rfl); (case hr => first | (go_simp; done) | (go_simp; rfl)); intro gb667 hg w31 hbox hb; have n0_ := am_ (Kd.R_below (Kd.R_elderB (by (with_reducible repeat (first | apply Kd.R_alloc | apply Kd.R_drewN | apply Kd.R_drew)); exact HO_666000.out) gb667 (Nat.le_of_eq hg.symm)) hb); have n1_ := am_ (blk_below (g := gb658) (o := .cells #[.int .i64 a2] 2 (0, 0)) (by (with_reducible repeat (first | apply kN_ | apply kD_ | apply kA_)); exact BK658.out) hb); have n2_ := am_ (blk_below (g := gb665) (o := .cells #[u666000] 39 (0, 0)) (by (with_reducible repeat (first | apply kN_ | apply kD_ | apply kA_)); exact BK665.out) hb); have n3_ := am_ (bT_ (by repeat (first | (with_reducible first | exact HB.out | apply bA_ | apply bN_ | apply bD_ | refine bS_ ?_ GE658.out | refine bS_ ?_ GE665.out) | exact HB.out)) hb); have n4_ := am_ (hbox); have n5_ := am_ ((by rw [hg]; exact (below_size (by repeat (first | (with_reducible first | exact HB.out | apply bA_ | apply bN_ | apply bD_ | refine bS_ ?_ GE658.out | refine bS_ ?_ GE665.out) | exact HB.out))) : w.heap.size ≤ gb667)); have n6_ := n5_; have n7_ := am_ ((by rw [hg]; exact Nat.ne_of_lt (blk_lt (g := gb658) (o := .cells #[.int .i64 a2] 2 (0, 0)) (by (with_reducible repeat (first | apply kN_ | apply kD_ | apply kA_)); exact BK658.out)) : gb658 ≠ gb667)); have n8_ := am_ ((by rw [hg]; exact Nat.ne_of_gt (blk_lt (g := gb658) (o := .cells #[.int .i64 a2] 2 (0, 0)) (by (with_reducible repeat (first | apply kN_ | apply kD_ | apply kA_)); exact BK658.out)) : gb667 ≠ gb658)); have n9_ := am_ ((by rw [hg]; exact Nat.ne_of_lt (blk_lt (g := gb665) (o := .cells #[u666000] 39 (0, 0)) (by (with_reducible repeat (first | apply kN_ | apply kD_ | apply kA_)); exact BK665.out)) : gb665 ≠ gb667)); have n10_ := am_ ((by rw [hg]; exact Nat.ne_of_gt (blk_lt (g := gb665) (o := .cells #[u666000] 39 (0, 0)) (by (with_reducible repeat (first | apply kN_ | apply kD_ | apply kA_)); exact BK665.out)) : gb667 ≠ gb665)); clear HO_666000; clear BK658; clear BK665; clear HB; have HO_666000 := n0_; have BK658 := n1_; have BK665 := n2_; have HB := n3_; have BK667 := n4_; have GW667 := n5_; have GE667 := n6_; have NB658_667 := n7_; have NB667_658 := n8_; have NB665_667 := n9_; have NB667_665 := n10_; clear n0_ n1_ n2_ n3_ n4_ n5_ n6_ n7_ n8_ n9_ n10_; clear hb hbox hg; have hnb32 := NB667_658.out; have hnc32 := NB658_667.out; have hnb33 := NB667_665.out; have hnc33 := NB665_667.out; have hcz34_0 : w31.cell? ⟨gb667, 0, none⟩ = some (.int .i8 0) := (kC_ BK667.out 0).trans rfl; have hcz34_1 : w31.cell? ⟨gb667, 1, none⟩ = some (.int .i16 0) := (kC_ BK667.out 1).trans rfl; have hfz34_0 := kF_ BK667.out 0; have hfz34_1 := kF_ BK667.out 1; have hnb35 := NB665_658.out; have hnc35 := NB658_665.out; have hcz36_0 : w31.cell? ⟨gb665, 0, none⟩ = some (u666000) := (kC_ BK665.out 0).trans rfl; have hfz36_0 := kF_ BK665.out 0) | ((with_reducible refine gate_builtin (b := .append) (xs := #[.tmp 48, .tmp 50]) rfl ?_); at_builtin; refine Kd.R_append k68 (w0 := w) w.heap.size rfl (.tmp 48) (.tmp 50) 39 68 (.agg #[(.int .i8 0), (.int .i16 0)]) 4 rfl Try.underlying39 info68 rfl (by decide) (by omega) u666000 x666000_3 (⟨(rd_T68 l0 x38_3).f0, (rd_T68 l0 x38_3).f1⟩ : S68) [.int .i8 ((rd_T68 l0 x38_3).f0), .int .i16 ((rd_T68 l0 x38_3).f1)] (fun k_ => k_ ≠ gb667) (fun _ => False) rfl (by first | (go_simp; done) | (go_simp; rfl)) ?aP (fun _ hk => hk.elim) ?aF ?aO ?aB ?aS ?aL ?_; (case aP => exact k68_mkM _ _ _ (⟨(rd_T68 l0 x38_3).f0, (rd_T68 l0 x38_3).f1⟩ : S68)); (case aB => exact (by repeat (first | (with_reducible first | exact HB.out | apply bA_ | apply bN_ | apply bD_ | refine bS_ ?_ GE658.out | refine bS_ ?_ GE665.out | refine bS_ ?_ GE667.out) | exact HB.out))); (case aF => exact (fun k_ hk => Kd.freshB (g := gb667) (o := .cells #[.int .i8 ((rd_T68 l0 x38_3).f0), .int .i16 ((rd_T68 l0 x38_3).f1)] 68 (0, 0)) (by (with_reducible repeat (first | apply kN_ | apply kD_ | apply kA_)); refine blk_put (cs := #[.int .i8 ((rd_T68 l0 x38_3).f0), .int .i16 0]) ?_ 1 _ rfl; (with_reducible repeat (first | apply kN_ | apply kD_ | apply kA_)); refine blk_put (cs := #[.int .i8 0, .int .i16 0]) ?_ 0 _ rfl; (with_reducible repeat (first | apply kN_ | apply kD_ | apply kA_)); exact BK667.out) k_ hk)); (case aO => exact (by (with_reducible repeat (first | apply Kd.R_alloc | apply Kd.R_drewN | apply Kd.R_drew)); exact Kd.R_mono (Kd.R_far (p := ⟨gb667, 1, none⟩) (Kd.R_far (p := ⟨gb667, 0, none⟩) (Kd.R_mono HO_666000.out (fun k_ hk => (⟨hk, hk.2⟩ : _ ∧ k_ ≠ gb667))) (fun _ hk => hk.2) (.int .i8 ((rd_T68 l0 x38_3).f0))) (fun _ hk => hk.2) (.int .i16 ((rd_T68 l0 x38_3).f1))) (fun _ hk => hk.1.2))); (case aS => exact (below_size (by repeat (first | (with_reducible first | exact HB.out | apply bA_ | apply bN_ | apply bD_ | refine bS_ ?_ GE658.out | refine bS_ ?_ GE665.out | refine bS_ ?_ GE667.out) | exact HB.out)))); (case aL => have := LMc30.out; omega); intro v669 w37 ho hb hg hat; rw [← Ny668.out] at ho; have n0_ := am_ (blk_grown (g := gb658) (o := .cells #[.int .i64 a2] 2 (0, 0)) (by (with_reducible repeat (first | apply kN_ | apply kD_ | apply kA_)); refine blk_far ?_ NB658_667.out _; (with_reducible repeat (first | apply kN_ | apply kD_ | apply kA_)); refine blk_far ?_ NB658_667.out _; (with_reducible repeat (first | apply kN_ | apply kD_ | apply kA_)); exact BK658.out) hg (Kd.R_ne HO_666000.out BK658.out (by decide))); have n1_ := am_ (blk_grown (g := gb665) (o := .cells #[u666000] 39 (0, 0)) (by (with_reducible repeat (first | apply kN_ | apply kD_ | apply kA_)); refine blk_far ?_ NB665_667.out _; (with_reducible repeat (first | apply kN_ | apply kD_ | apply kA_)); refine blk_far ?_ NB665_667.out _; (with_reducible repeat (first | apply kN_ | apply kD_ | apply kA_)); exact BK665.out) hg (Kd.R_ne HO_666000.out BK665.out (by decide))); have n2_ := am_ (blk_grown (g := gb667) (o := .cells #[.int .i8 ((rd_T68 l0 x38_3).f0), .int .i16 ((rd_T68 l0 x38_3).f1)] 68 (0, 0)) (by (with_reducible repeat (first | apply kN_ | apply kD_ | apply kA_)); refine blk_put (cs := #[.int .i8 ((rd_T68 l0 x38_3).f0), .int .i16 0]) ?_ 1 _ rfl; (with_reducible repeat (first | apply kN_ | apply kD_ | apply kA_)); refine blk_put (cs := #[.int .i8 0, .int .i16 0]) ?_ 0 _ rfl; (with_reducible repeat (first | apply kN_ | apply kD_ | apply kA_)); exact BK667.out) hg (Kd.R_away HO_666000.out (fun _ hk => hk.2))); have n3_ := am_ (hb); have n4_ := am_ (ho); clear BK658; clear BK665; clear BK667; clear HB; clear HO_666000; have BK658 := n0_; have BK665 := n1_; have BK667 := n2_; have HB := n3_; have HO670 := n4_; clear n0_ n1_ n2_ n3_ n4_; clear ho hb hg hat; obtain ⟨Ao38, co38, eo38⟩ := Kd.R_slice HO670.out; subst eo38; have hcz39_0 : w37.cell? ⟨gb665, 0, none⟩ = some (u666000) := (kC_ BK665.out 0).trans rfl; have hfz39_0 := kF_ BK665.out 0))
                go_roundg k3
                case measure => have := HJ5.out; have := HK2.out; have := HK3.out; omega
                case rel => exact ⟨(wrap64 (x38_3 + 1)), (y668), (.slice Ao38 y668.length co38), (by first | rfl | (simp; done) | (simp [*]; done)), H', ⟨by have := HJ5.out; have := HK2.out; have := HK3.out; omega⟩, ⟨by (with_reducible repeat (first | apply Kd.R_alloc | apply Kd.R_drewN | apply Kd.R_drew)); exact Kd.R_mono (Kd.R_far (p := ⟨gb665, 0, none⟩) (Kd.R_types HO670.out BK665.out (by decide)) (fun _ hk => hk.2) (.slice Ao38 y668.length co38)) (fun _ hk => trivial)⟩, ⟨by (with_reducible repeat (first | apply kN_ | apply kD_ | apply kA_)); refine blk_far ?_ NB658_665.out _; (with_reducible repeat (first | apply kN_ | apply kD_ | apply kA_)); exact BK658.out⟩, ⟨by (with_reducible repeat (first | apply kN_ | apply kD_ | apply kA_)); refine blk_put (cs := #[u666000]) ?_ 0 _ rfl; (with_reducible repeat (first | apply kN_ | apply kD_ | apply kA_)); exact BK665.out⟩, ⟨by repeat (first | (with_reducible first | exact HB.out | apply bA_ | apply bN_ | apply bD_ | refine bS_ ?_ GE658.out | refine bS_ ?_ GE665.out | refine bS_ ?_ GE667.out) | exact HB.out)⟩⟩
               ·
                rw [if_neg c30] at H; exact absurd H (by simp)
              ·
               rw [if_neg c29] at H; have c29b0 : ((Go.bits .and .i64 (ji28) 1) == 1) = false := beq_eq_false_iff_ne.mpr c29; have c29b1 : ((Go.bits .and .i64 (ji28) 1) != 1) = true := bne_iff_ne.mpr c29; have H' := am_ H; clear H; have p666 : 0 ≤ (x38_3 : Int) := od_ (by first | (with_reducible assumption) | assumption); have q666 : x38_3 < (l0.length : Int) := od_ (by first | (with_reducible assumption) | assumption); obtain ⟨ad666, e666, hx666_0, hx666_1⟩ := at_T68 HR0.out x38_3 p666 q666
               cases e666
               replace hx666_0 := (HB.out.cell (bl_ w _ hx666_0)).trans hx666_0; replace hx666_1 := (HB.out.cell (bl_ w _ hx666_1)).trans hx666_1; replace p666 := eq_true p666; replace q666 := eq_true q666
               go_wp2_with (first | ((with_reducible refine gate_dst (N := 12) rfl ?_); refine box_event ?hg (N := 12) ?hd (cs := #[.int .i8 0, .int .i16 0]) (t := 68) ?hr ?_; (case hd => rfl); (case hg => rfl); (case hr => first | (go_simp; done) | (go_simp; rfl)); intro gb667 hg w40 hbox hb; have n0_ := am_ (Kd.R_below (Kd.R_elderB (by (with_reducible repeat (first | apply Kd.R_alloc | apply Kd.R_drewN | apply Kd.R_drew)); exact HO_666000.out) gb667 (Nat.le_of_eq hg.symm)) hb); have n1_ := am_ (blk_below (g := gb658) (o := .cells #[.int .i64 a2] 2 (0, 0)) (by (with_reducible repeat (first | apply kN_ | apply kD_ | apply kA_)); exact BK658.out) hb); have n2_ := am_ (blk_below (g := gb665) (o := .cells #[u666000] 39 (0, 0)) (by (with_reducible repeat (first | apply kN_ | apply kD_ | apply kA_)); exact BK665.out) hb); have n3_ := am_ (bT_ (by repeat (first | (with_reducible first | exact HB.out | apply bA_ | apply bN_ | apply bD_ | refine bS_ ?_ GE658.out | refine bS_ ?_ GE665.out) | exact HB.out)) hb); have n4_ := am_ (hbox); have n5_ := am_ ((by rw [hg]; exact (below_size (by repeat (first | (with_reducible first | exact HB.out | apply bA_ | apply bN_ | apply bD_ | refine bS_ ?_ GE658.out | refine bS_ ?_ GE665.out) | exact HB.out))) : w.heap.size ≤ gb667)); have n6_ := n5_; have n7_ := am_ ((by rw [hg]; exact Nat.ne_of_lt (blk_lt (g := gb658) (o := .cells #[.int .i64 a2] 2 (0, 0)) (by (with_reducible repeat (first | apply kN_ | apply kD_ | apply kA_)); exact BK658.out)) : gb658 ≠ gb667)); have n8_ := am_ ((by rw [hg]; exact Nat.ne_of_gt (blk_lt (g := gb658) (o := .cells #[.int .i64 a2] 2 (0, 0)) (by (with_reducible repeat (first | apply kN_ | apply kD_ | apply kA_)); exact BK658.out)) : gb667 ≠ gb658)); have n9_ := am_ ((by rw [hg]; exact Nat.ne_of_lt (blk_lt (g := gb665) (o := .cells #[u666000] 39 (0, 0)) (by (with_reducible repeat (first | apply kN_ | apply kD_ | apply kA_)); exact BK665.out)) : gb665 ≠ gb667)); have n10_ := am_ ((by rw [hg]; exact Nat.ne_of_gt (blk_lt (g := gb665) (o := .cells #[u666000] 39 (0, 0)) (by (with_reducible repeat (first | apply kN_ | apply kD_ | apply kA_)); exact BK665.out)) : gb667 ≠ gb665)); clear HO_666000; clear BK658; clear BK665; clear HB; have HO_666000 := n0_; have BK658 := n1_; have BK665 := n2_; have HB := n3_; have BK667 := n4_; have GW667 := n5_; have GE667 := n6_; have NB658_667 := n7_; have NB667_658 := n8_; have NB665_667 := n9_; have NB667_665 := n10_; clear n0_ n1_ n2_ n3_ n4_ n5_ n6_ n7_ n8_ n9_ n10_; clear hb hbox hg; have hnb41 := NB667_658.out; have hnc41 := NB658_667.out; have hnb42 := NB667_665.out; have hnc42 := NB665_667.out; have hcz43_0 : w40.cell? ⟨gb667, 0, none⟩ = some (.int .i8 0) := (kC_ BK667.out 0).trans rfl; have hcz43_1 : w40.cell? ⟨gb667, 1, none⟩ = some (.int .i16 0) := (kC_ BK667.out 1).trans rfl; have hfz43_0 := kF_ BK667.out 0; have hfz43_1 := kF_ BK667.out 1))
               go_roundg k3
               case measure => have := HJ5.out; have := HK2.out; have := HK3.out; omega
               case rel => exact ⟨(wrap64 (x38_3 + 1)), (x666000_3), (u666000), (by first | rfl | (simp; done) | (simp [*]; done)), H', ⟨by have := HJ5.out; have := HK2.out; have := HK3.out; omega⟩, ⟨by (with_reducible repeat (first | apply Kd.R_alloc | apply Kd.R_drewN | apply Kd.R_drew)); exact Kd.R_mono (Kd.R_far (p := ⟨gb667, 1, none⟩) (Kd.R_far (p := ⟨gb667, 0, none⟩) (Kd.R_mono HO_666000.out (fun k_ hk => (⟨hk, hk.2⟩ : _ ∧ k_ ≠ gb667))) (fun _ hk => hk.2) (.int .i8 ((rd_T68 l0 x38_3).f0))) (fun _ hk => hk.2) (.int .i16 ((rd_T68 l0 x38_3).f1))) (fun _ hk => trivial)⟩, ⟨by (with_reducible repeat (first | apply kN_ | apply kD_ | apply kA_)); refine blk_far ?_ NB658_667.out _; (with_reducible repeat (first | apply kN_ | apply kD_ | apply kA_)); refine blk_far ?_ NB658_667.out _; (with_reducible repeat (first | apply kN_ | apply kD_ | apply kA_)); exact BK658.out⟩, ⟨by (with_reducible repeat (first | apply kN_ | apply kD_ | apply kA_)); refine blk_far ?_ NB665_667.out _; (with_reducible repeat (first | apply kN_ | apply kD_ | apply kA_)); refine blk_far ?_ NB665_667.out _; (with_reducible repeat (first | apply kN_ | apply kD_ | apply kA_)); exact BK665.out⟩, ⟨by repeat (first | (with_reducible first | exact HB.out | apply bA_ | apply bN_ | apply bD_ | refine bS_ ?_ GE658.out | refine bS_ ?_ GE665.out | refine bS_ ?_ GE667.out) | exact HB.out)⟩⟩
             ·
              rw [if_neg c26] at H; exact absurd H (by simp)
            ·
             rw [if_neg c25] at H; exact absurd H (by simp)
           ·
            rw [if_neg c24] at H; have c24b0 : decide (x38_3 < (l0.length : Int)) = false := decide_eq_false c24; clear c24; have HC44 := am_ H; clear H
            go_upto_region 18 with (fail)
            go_cut [60] (fun v60 wc => ∃ (kq : Nat) (x60_43 : Bool), v60 = .bool x60_43 ∧ Aside0 (impl_FewestSorts.j3 kq l0 l1 x8_2 ji16 x32_2 x60_43 a2 x666000_3 = some (r1, r2)) ∧ Aside0 (kq ≤ k3) ∧ Aside0 (Kd.R k68 68 wc w.heap.size (fun _ => True) u666000 x666000_3) ∧ Aside0 (wc.heap[gb658]? = some (.cells #[.int .i64 a2] 2 (0, 0))) ∧ Aside0 (wc.heap[gb665]? = some (.cells #[u666000] 39 (0, 0))) ∧ Aside0 (Below w.heap.size w wc))
            case first =>
             have H := HC44.out; clear HC44
             by_cases c45 : x8_2 ≥ 0
             ·
              rw [if_pos c45] at H; have c45b0 : decide (0 ≤ x8_2) = true := decide_eq_true c45; clear c45
              (first | rw [c45b0] | (simp only [i64_w, i32_w]; rw [c45b0]) | skip)
              replace H := Option.bind_eq_some_iff.mp H; obtain ⟨t671, A460, H⟩ := H; replace H : (impl_FewestSorts.j3 k3 l0 l1 x8_2 ji16 x32_2 (decide (t671 ≥ x8_2)) a2 x666000_3) = some (r1, r2) := H; have A46 := am_ A460; clear A460; have H' := am_ H; clear H; have hnb47 := NB665_658.out; have hnc47 := NB658_665.out; have hcz48_0 : wr.cell? ⟨gb665, 0, none⟩ = some (u666000) := (kC_ BK665.out 0).trans rfl; have hfz48_0 := kF_ BK665.out 0; obtain ⟨Ao49, co49, eo49⟩ := Kd.R_slice HO_666000.out; subst eo49
              go_wp2_with (first | (go_at_call 74; (with_reducible refine (impl_Sett_74.calls _ _ x666000_3 t671 _ ?side1 ?side2 A46.out).mono ?_); (case side1 => repeat (first | exact (Kd.R_reads' HO_666000.out).2.2 | (with_reducible refine Kd.C_alloc ?_ _) | (with_reducible refine Kd.C_drewN ?_ _) | (with_reducible refine Kd.C_drew ?_))); (case side2 => exact (Kd.R_reads' HO_666000.out).2.1); rintro e w' ⟨rfl, ⟨nd, rfl⟩⟩))
              go_meet
              case rel => exact ⟨_, (decide (t671 ≥ x8_2)), (by first | rfl | (simp; done) | (simp [*]; done)), H', ⟨by have := HJ5.out; have := HK2.out; have := HK3.out; first | omega | exact Nat.le_refl _⟩, ⟨by (with_reducible repeat (first | apply Kd.R_alloc | apply Kd.R_drewN | apply Kd.R_drew)); exact HO_666000.out⟩, ⟨by (with_reducible repeat (first | apply kN_ | apply kD_ | apply kA_)); exact BK658.out⟩, ⟨by (with_reducible repeat (first | apply kN_ | apply kD_ | apply kA_)); exact BK665.out⟩, ⟨by repeat (first | (with_reducible first | exact HB.out | apply bA_ | apply bN_ | apply bD_ | refine bS_ ?_ GE658.out | refine bS_ ?_ GE665.out) | exact HB.out)⟩⟩
             ·
              rw [if_neg c45] at H; have c45b0 : decide (0 ≤ x8_2) = false := decide_eq_false c45; clear c45
              (first | rw [c45b0] | (simp only [i64_w, i32_w]; rw [c45b0]) | skip)
              have H' := am_ H; clear H
              go_wp2
              go_meet
              case rel => exact ⟨_, (false), (by first | rfl | (simp; done) | (simp [*]; done)), H', ⟨by have := HJ5.out; have := HK2.out; have := HK3.out; first | omega | exact Nat.le_refl _⟩, ⟨by (with_reducible repeat (first | apply Kd.R_alloc | apply Kd.R_drewN | apply Kd.R_drew)); exact HO_666000.out⟩, ⟨by (with_reducible repeat (first | apply kN_ | apply kD_ | apply kA_)); exact BK658.out⟩, ⟨by (with_reducible repeat (first | apply kN_ | apply kD_ | apply kA_)); exact BK665.out⟩, ⟨by repeat (first | (with_reducible first | exact HB.out | apply bA_ | apply bN_ | apply bD_ | refine bS_ ?_ GE658.out | refine bS_ ?_ GE665.out) | exact HB.out)⟩⟩
            case rest =>
             clear HC44; (try clear c1); (try clear c2); (try clear p2); (try clear c3); (try clear c4); (try clear c5); (try clear c6); (try clear p6); (try clear q6); (try clear hx6); (try clear c10); (try clear c14); (try clear c15); (try clear c15b0); (try clear c15b1); (try clear c17); (try clear c17b0); (try clear c22); (try clear c24); (try clear c24b0); (try clear c25); (try clear c25b0); (try clear c26); (try clear c26b0); (try clear c27); (try clear c27b0); (try clear c29); (try clear c29b0); (try clear c29b1); (try clear c30); (try clear c32); (try clear c33); (try clear c35); (try clear c39); (try clear c41); (try clear c42); (try clear c45); (try clear c45b0); (try clear c47); (try clear hcz12_0); (try clear hcz13_0); (try clear hcz23_0); (try clear hcz34_0); (try clear hcz34_1); (try clear hcz36_0); (try clear hcz39_0); (try clear hcz43_0); (try clear hcz43_1); (try clear hcz48_0); (try clear hfz12_0); (try clear hfz13_0); (try clear hfz23_0); (try clear hfz34_0); (try clear hfz34_1); (try clear hfz36_0); (try clear hfz39_0); (try clear hfz43_0); (try clear hfz43_1); (try clear hfz48_0); (try clear hx666_0); (try clear hx666_1); (try clear p2); (try clear p6); (try clear p666); (try clear q666); obtain ⟨kq, x60_43, rfl, HA, HJ43, HO_666000, BK658, BK665, HB⟩ := hcut
             cases kq with
             | zero => exact absurd HA.out (by simp [impl_FewestSorts.j3])
             | succ kj43 =>
              have H := HA.out; clear HA; simp only [impl_FewestSorts.j3] at H
              by_cases c50 : x60_43 = true
              ·
               subst c50; have H1 : (impl_FewestSorts.l0 kj43 l0 l1 x8_2 ji16 (wrap64 (x32_2 + 1)) a2) = some (r1, r2) := by rw [if_pos rfl] at H; exact H
               clear H; have H := H1; clear H1; have H' := am_ H; clear H
               go_wp2
               go_roundg kj43
               case measure => have := HJ5.out; have := HK2.out; have := HK3.out; have := HJ43.out; omega
               case rel => exact ⟨(x8_2), (wrap64 (x32_2 + 1)), (by first | rfl | (simp; done) | (simp [*]; done)), (by first | rfl | (simp; done) | (simp [*]; done)), H', ⟨by have := HJ5.out; have := HK2.out; have := HK3.out; have := HJ43.out; omega⟩, ⟨by (with_reducible repeat (first | apply kN_ | apply kD_ | apply kA_)); exact BK658.out⟩, ⟨by repeat (first | (with_reducible first | exact HB.out | apply bA_ | apply bN_ | apply bD_ | refine bS_ ?_ GE658.out | refine bS_ ?_ GE665.out) | exact HB.out)⟩⟩
              ·
               replace c50 := Bool.eq_false_iff.mpr c50; subst c50; have H1 : ((slices_ContainsFunc_int64_int64_at_impl_FewestSorts_2.f kj43 l1 [x666000_3] [a2]).bind fun t672 => (if t672 = true then (impl_FewestSorts.l0 kj43 l0 l1 x8_2 ji16 (wrap64 (x32_2 + 1)) a2) else ((impl_Sett_74.f x666000_3).bind fun t673 => (impl_FewestSorts.l0 kj43 l0 l1 t673 ji16 (wrap64 (x32_2 + 1)) a2)))) = some (r1, r2) := by rw [if_neg (show ¬ (false = true) by decide)] at H; exact H
               clear H; have H := H1; clear H1; replace H := Option.bind_eq_some_iff.mp H; obtain ⟨t672, A510, H⟩ := H; replace H : (if t672 = true then (impl_FewestSorts.l0 kj43 l0 l1 x8_2 ji16 (wrap64 (x32_2 + 1)) a2) else ((impl_Sett_74.f x666000_3).bind fun t673 => (impl_FewestSorts.l0 kj43 l0 l1 t673 ji16 (wrap64 (x32_2 + 1)) a2))) = some (r1, r2) := H; have A51 := am_ A510; clear A510
               by_cases c52 : t672 = true
               ·
                subst c52; have H1 : (impl_FewestSorts.l0 kj43 l0 l1 x8_2 ji16 (wrap64 (x32_2 + 1)) a2) = some (r1, r2) := by rw [if_pos rfl] at H; exact H
                clear H; have H := H1; clear H1; have H' := am_ H; clear H; obtain ⟨Ao53, co53, eo53⟩ := Kd.R_slice HO_666000.out; subst eo53
                go_wp2_with (first | ((with_reducible refine gate_callee (f := 67) rfl ?_); refine goesL_ (some 63) rfl rfl Try.func67 (by kernel_rfl) rfl #[.slice A1 l1.length c1, .func (.func 75) #[] #[.pointer (some ⟨gb665, 0, none⟩), .pointer (some ⟨gb658, 0, none⟩)]] rfl (by (try simp only [List.map_toArray, List.map_cons, List.map_nil]); first | done | rfl | (simp only [List.length_drop, List.length_take]; rfl)) ?_; (with_reducible refine (slices_ContainsFunc_int64_int64_at_impl_FewestSorts_2.calls kj43 _ _ l1 _ 1 [x666000_3] _ 1 [a2] true _ ?side1 ?side2 ?side3 ?side4 ?side5 ?side6 A51.out).mono ?_); (case side1 => repeat (first | exact (Kd.C_below HR1.out HB.out) | (with_reducible refine Kd.C_alloc ?_ _) | (with_reducible refine Kd.C_drewN ?_ _) | (with_reducible refine Kd.C_drew ?_))); (case side2 => exact HC1.out); (case side3 => exact Kd.C_one_ (by (with_reducible repeat (first | apply kN_ | apply kD_ | apply kA_)); exact BK665.out) (Kd.K_row_ (by exact (Kd.R_reads' HO_666000.out).2.1) (by repeat (first | exact (Kd.R_reads' HO_666000.out).2.2 | (with_reducible refine Kd.C_alloc ?_ _) | (with_reducible refine Kd.C_drewN ?_ _) | (with_reducible refine Kd.C_drew ?_))))); (case side4 => exact Nat.le_refl _); (case side5 => exact Kd.C_one_ (by (with_reducible repeat (first | apply kN_ | apply kD_ | apply kA_)); exact BK658.out) rfl); (case side6 => exact Nat.le_refl _); rintro e w54 ⟨rfl, hb⟩; refine ⟨_, rfl, ?_⟩; have n0_ := am_ (Kd.R_below (by (with_reducible repeat (first | apply Kd.R_alloc | apply Kd.R_drewN | apply Kd.R_drew)); exact HO_666000.out) hb); have n1_ := am_ (blk_below (g := gb658) (o := .cells #[.int .i64 a2] 2 (0, 0)) (by (with_reducible repeat (first | apply kN_ | apply kD_ | apply kA_)); exact BK658.out) hb); have n2_ := am_ (blk_below (g := gb665) (o := .cells #[.slice Ao53 x666000_3.length co53] 39 (0, 0)) (by (with_reducible repeat (first | apply kN_ | apply kD_ | apply kA_)); exact BK665.out) hb); have n3_ := am_ (bT_ (by repeat (first | (with_reducible first | exact HB.out | apply bA_ | apply bN_ | apply bD_ | refine bS_ ?_ GE658.out | refine bS_ ?_ GE665.out) | exact HB.out)) hb); clear HO_666000; clear BK658; clear BK665; clear HB; have HO_666000 := n0_; have BK658 := n1_; have BK665 := n2_; have HB := n3_; clear n0_ n1_ n2_ n3_; (try clear hb); (try clear hb2); (try clear hk); (try clear hi)))
                go_roundg kj43
                case measure => have := HJ5.out; have := HK2.out; have := HK3.out; have := HJ43.out; omega
                case rel => exact ⟨(x8_2), (wrap64 (x32_2 + 1)), (by first | rfl | (simp; done) | (simp [*]; done)), (by first | rfl | (simp; done) | (simp [*]; done)), H', ⟨by have := HJ5.out; have := HK2.out; have := HK3.out; have := HJ43.out; omega⟩, ⟨by (with_reducible repeat (first | apply kN_ | apply kD_ | apply kA_)); exact BK658.out⟩, ⟨by repeat (first | (with_reducible first | exact HB.out | apply bA_ | apply bN_ | apply bD_ | refine bS_ ?_ GE658.out | refine bS_ ?_ GE665.out) | exact HB.out)⟩⟩
               ·
                replace c52 := Bool.eq_false_iff.mpr c52; subst c52; have H1 : ((impl_Sett_74.f x666000_3).bind fun t673 => (impl_FewestSorts.l0 kj43 l0 l1 t673 ji16 (wrap64 (x32_2 + 1)) a2)) = some (r1, r2) := by rw [if_neg (show ¬ (false = true) by decide)] at H; exact H
                clear H; have H := H1; clear H1; replace H := Option.bind_eq_some_iff.mp H; obtain ⟨t673, A550, H⟩ := H; replace H : (impl_FewestSorts.l0 kj43 l0 l1 t673 ji16 (wrap64 (x32_2 + 1)) a2) = some (r1, r2) := H; have A55 := am_ A550; clear A550; have H' := am_ H; clear H; obtain ⟨Ao56, co56, eo56⟩ := Kd.R_slice HO_666000.out; subst eo56
                go_wp2_with (first | ((with_reducible refine gate_callee (f := 67) rfl ?_); refine goesL_ (some 63) rfl rfl Try.func67 (by kernel_rfl) rfl #[.slice A1 l1.length c1, .func (.func 75) #[] #[.pointer (some ⟨gb665, 0, none⟩), .pointer (some ⟨gb658, 0, none⟩)]] rfl (by (try simp only [List.map_toArray, List.map_cons, List.map_nil]); first | done | rfl | (simp only [List.length_drop, List.length_take]; rfl)) ?_; (with_reducible refine (slices_ContainsFunc_int64_int64_at_impl_FewestSorts_2.calls kj43 _ _ l1 _ 1 [x666000_3] _ 1 [a2] false _ ?side1 ?side2 ?side3 ?side4 ?side5 ?side6 A51.out).mono ?_); (case side1 => repeat (first | exact (Kd.C_below HR1.out HB.out) | (with_reducible refine Kd.C_alloc ?_ _) | (with_reducible refine Kd.C_drewN ?_ _) | (with_reducible refine Kd.C_drew ?_))); (case side2 => exact HC1.out); (case side3 => exact Kd.C_one_ (by (with_reducible repeat (first | apply kN_ | apply kD_ | apply kA_)); exact BK665.out) (Kd.K_row_ (by exact (Kd.R_reads' HO_666000.out).2.1) (by repeat (first | exact (Kd.R_reads' HO_666000.out).2.2 | (with_reducible refine Kd.C_alloc ?_ _) | (with_reducible refine Kd.C_drewN ?_ _) | (with_reducible refine Kd.C_drew ?_))))); (case side4 => exact Nat.le_refl _); (case side5 => exact Kd.C_one_ (by (with_reducible repeat (first | apply kN_ | apply kD_ | apply kA_)); exact BK658.out) rfl); (case side6 => exact Nat.le_refl _); rintro e w57 ⟨rfl, hb⟩; refine ⟨_, rfl, ?_⟩; have n0_ := am_ (Kd.R_below (by (with_reducible repeat (first | apply Kd.R_alloc | apply Kd.R_drewN | apply Kd.R_drew)); exact HO_666000.out) hb); have n1_ := am_ (blk_below (g := gb658) (o := .cells #[.int .i64 a2] 2 (0, 0)) (by (with_reducible repeat (first | apply kN_ | apply kD_ | apply kA_)); exact BK658.out) hb); have n2_ := am_ (blk_below (g := gb665) (o := .cells #[.slice Ao56 x666000_3.length co56] 39 (0, 0)) (by (with_reducible repeat (first | apply kN_ | apply kD_ | apply kA_)); exact BK665.out) hb); have n3_ := am_ (bT_ (by repeat (first | (with_reducible first | exact HB.out | apply bA_ | apply bN_ | apply bD_ | refine bS_ ?_ GE658.out | refine bS_ ?_ GE665.out) | exact HB.out)) hb); clear HO_666000; clear BK658; clear BK665; clear HB; have HO_666000 := n0_; have BK658 := n1_; have BK665 := n2_; have HB := n3_; clear n0_ n1_ n2_ n3_; (try clear hb); (try clear hb2); (try clear hk); (try clear hi); have hnb58 := NB665_658.out; have hnc58 := NB658_665.out; have hcz59_0 : w57.cell? ⟨gb665, 0, none⟩ = some (.slice Ao56 x666000_3.length co56) := (kC_ BK665.out 0).trans rfl; have hfz59_0 := kF_ BK665.out 0) | ((with_reducible refine gate_callee (f := 74) rfl ?_); refine goesL_ (some 66) rfl rfl Try.func74 (by kernel_rfl) rfl #[.slice Ao56 x666000_3.length co56] rfl (by (try simp only [List.map_toArray, List.map_cons, List.map_nil]); first | done | rfl | (simp only [List.length_drop, List.length_take]; rfl)) ?_; (with_reducible refine (impl_Sett_74.calls _ _ x666000_3 t673 _ ?side1 ?side2 A55.out).mono ?_); (case side1 => repeat (first | exact (Kd.R_reads' HO_666000.out).2.2 | (with_reducible refine Kd.C_alloc ?_ _) | (with_reducible refine Kd.C_drewN ?_ _) | (with_reducible refine Kd.C_drew ?_))); (case side2 => exact (Kd.R_reads' HO_666000.out).2.1); rintro e w' ⟨rfl, ⟨nd, rfl⟩⟩; refine ⟨_, rfl, ?_⟩))
                go_roundg kj43
                case measure => have := HJ5.out; have := HK2.out; have := HK3.out; have := HJ43.out; omega
                case rel => exact ⟨(t673), (wrap64 (x32_2 + 1)), (by first | rfl | (simp; done) | (simp [*]; done)), (by first | rfl | (simp; done) | (simp [*]; done)), H', ⟨by have := HJ5.out; have := HK2.out; have := HK3.out; have := HJ43.out; omega⟩, ⟨by (with_reducible repeat (first | apply kN_ | apply kD_ | apply kA_)); exact BK658.out⟩, ⟨by repeat (first | (with_reducible first | exact HB.out | apply bA_ | apply bN_ | apply bD_ | refine bS_ ?_ GE658.out | refine bS_ ?_ GE665.out) | exact HB.out)⟩⟩
        ·
         rw [if_neg c17] at H; have c17b0 : decide (x32_2 < ji16) = false := decide_eq_false c17; clear c17
         by_cases c60 : x8_2 < 0
         ·
          rw [if_pos c60] at H; have c60b0 : decide (x8_2 < 0) = true := decide_eq_true c60; clear c60; simp only [Option.some.injEq, Prod.mk.injEq] at H; obtain ⟨rfl, rfl⟩ := H
          go_wp2
          go_ret2
          exact ⟨by first | rfl | (simp [errW_none, errW_some] <;> rfl) | (simp only [← hji16]; first | rfl | (simp [errW_none, errW_some] <;> rfl)) | (simp [*, errW_none, errW_some] <;> rfl), by repeat (first | (with_reducible first | exact HB.out | apply bA_ | apply bN_ | apply bD_ | refine bS_ ?_ GE658.out) | exact HB.out)⟩
         ·
          rw [if_neg c60] at H; have c60b0 : decide (x8_2 < 0) = false := decide_eq_false c60; clear c60; simp only [Option.some.injEq, Prod.mk.injEq] at H; obtain ⟨rfl, rfl⟩ := H
          go_wp2
          go_ret2
          exact ⟨by first | rfl | (simp [errW_none, errW_some] <;> rfl) | (simp only [← hji16]; first | rfl | (simp [errW_none, errW_some] <;> rfl)) | (simp [*, errW_none, errW_some] <;> rfl), by repeat (first | (with_reducible first | exact HB.out | apply bA_ | apply bN_ | apply bD_ | refine bS_ ?_ GE658.out) | exact HB.out)⟩
 ·
  replace c5 := Bool.eq_false_iff.mpr c5; subst c5; have H1 : (some (0, 1)) = some (r1, r2) := by rw [if_neg (show ¬ (false = true) by decide)] at H; exact H
  clear H; have H := H1; clear H1; simp only [Option.some.injEq, Prod.mk.injEq] at H; obtain ⟨rfl, rfl⟩ := H
  go_enter Try.func39, Try.ntmps39
  go_wp2_with (first | ((with_reducible refine gate_dst (N := 5) rfl ?_); refine box_event ?hg (N := 5) ?hd (cs := #[.int .i64 a2]) (t := 2) ?hr ?_; (case hd => rfl); (case hg => rfl); (case hr => first | (go_simp; done) | (go_simp; rfl)); intro gb658 hg w61 hbox hb; have n0_ := am_ (bT_ (by repeat (first | (with_reducible first | exact HB.out | apply bA_ | apply bN_ | apply bD_) | exact HB.out)) hb); have n1_ := am_ (hbox); have n2_ := am_ ((by rw [hg]; exact (below_size (by repeat (first | (with_reducible first | exact HB.out | apply bA_ | apply bN_ | apply bD_) | exact HB.out))) : w.heap.size ≤ gb658)); have n3_ := n2_; clear HB; have HB := n0_; have BK658 := n1_; have GW658 := n2_; have GE658 := n3_; clear n0_ n1_ n2_ n3_; clear hb hbox hg) | ((with_reducible refine gate_callee (f := 66) rfl ?_); refine goesL_ (some 15) rfl rfl Try.func66 (by kernel_rfl) rfl #[.slice A0 l0.length c0] rfl (by (try simp only [List.map_toArray, List.map_cons, List.map_nil]); first | done | rfl | (simp only [List.length_drop, List.length_take]; rfl)) ?_; (with_reducible refine (impl_ValidSetts.calls k _ _ l0 false _ ?side1 ?side2 A4.out).mono ?_); (case side1 => repeat (first | exact (Kd.C_below HR0.out HB.out) | (with_reducible refine Kd.C_alloc ?_ _) | (with_reducible refine Kd.C_drewN ?_ _) | (with_reducible refine Kd.C_drew ?_))); (case side2 => exact HC0.out); rintro e w62 ⟨rfl, hb⟩; refine ⟨_, rfl, ?_⟩; have n0_ := am_ (blk_below (g := gb658) (o := .cells #[.int .i64 a2] 2 (0, 0)) (by (with_reducible repeat (first | apply kN_ | apply kD_ | apply kA_)); exact BK658.out) hb); have n1_ := am_ (bT_ (by repeat (first | (with_reducible first | exact HB.out | apply bA_ | apply bN_ | apply bD_ | refine bS_ ?_ GE658.out) | exact HB.out)) hb); clear BK658; clear HB; have BK658 := n0_; have HB := n1_; clear n0_ n1_; (try clear hb); (try clear hb2); (try clear hk); (try clear hi)))
  go_ret2
  exact ⟨by first | rfl | (simp [errW_none, errW_some] <;> rfl) | (simp [*, errW_none, errW_some] <;> rfl), by repeat (first | (with_reducible first | exact HB.out | apply bA_ | apply bN_ | apply bD_ | refine bS_ ?_ GE658.out) | exact HB.out)⟩
end Go.Proofs.Ytpbobnpmiafbbaa.Q
