-- Trimmed by a program.
import Derived.Test.YtbdhmfjeamjfdaaXQ0
import Derived.Test.YtbdhmfjeamjfdaaXQ5
namespace Go.Proofs.Ytbdhmfjeamjfdaa.Q
open Go.RowKit Go.Proofs.YtbdhmfjeamjfdaaW.PrintWords Go.Proofs.YtbdhmfjeamjfdaaW.PrintLast Go.Proofs.YtbdhmfjeamjfdaaW.PrintMore
attribute [local go_sem] max2_int min2_int max_two min_two max_three min_three max_four min_four
set_option linter.unusedVariables false
set_option linter.unusedSimpArgs false
mutual
def spec_SizesIn.l0 : Nat → List (S45) → List Int → Int → Int → Int → List (S45) → Option ((List (S45)) × List Int × Int)
 | 0, _, _, _, _, _, _ => none
 | k + 1, x5, x6, x7, x137000, x137001, x137002 => if x7 ≤ x137000 then (spec_SizesIn.l1 k x5 x6 x7 1 x137000 x137001 x137002) else (some (x5, x6, 0))
def spec_SizesIn.l1 : Nat → List (S45) → List Int → Int → Int → Int → Int → List (S45) → Option ((List (S45)) × List Int × Int)
 | 0, _, _, _, _, _, _, _ => none
 | k + 1, x5, x6, x7, x8, x137000, x137001, x137002 => if x8 ≤ x137001 then (spec_SizesIn.l2 k x5 x6 x7 x8 0 0 x137000 x137001 x137002) else (spec_SizesIn.l0 k x5 x6 (IntKind.i8.wrap (x7 + 1)) x137000 x137001 x137002)
def spec_SizesIn.l2 : Nat → List (S45) → List Int → Int → Int → Int → Int → Int → Int → List (S45) → Option ((List (S45)) × List Int × Int)
 | 0, _, _, _, _, _, _, _, _, _ => none
 | k + 1, x5, x6, x7, x8, x9, x10, x137000, x137001, x137002 => if x10 < (x137002.length : Int) then (if 0 ≤ x10 then (if ((rd_T45 x137002 x10).f2) = x7 then (if ((rd_T45 x137002 x10).f3) = x8 then (spec_SizesIn.l2 k x5 x6 x7 x8 (wrap64 (x9 + 1)) (wrap64 (x10 + 1)) x137000 x137001 x137002) else (spec_SizesIn.l2 k x5 x6 x7 x8 x9 (wrap64 (x10 + 1)) x137000 x137001 x137002)) else (spec_SizesIn.l2 k x5 x6 x7 x8 x9 (wrap64 (x10 + 1)) x137000 x137001 x137002)) else (none)) else (if x9 > 0 then (if x5.length < 35184372088832 then (if x6.length < 17592186044416 then (spec_SizesIn.l1 k (x5 ++ [(⟨0, 0, x7, x8⟩ : S45)]) (x6 ++ [x9]) x7 (IntKind.i8.wrap (x8 + 1)) x137000 x137001 x137002) else (none)) else (none)) else (spec_SizesIn.l1 k x5 x6 x7 (IntKind.i8.wrap (x8 + 1)) x137000 x137001 x137002))
end
def spec_SizesIn.f (k : Nat) (a0_0 : Int) (a0_1 : Int) (l0_2 : List (S45)) : Option ((List (S45)) × List Int × Int) := (spec_l01Ok.f k [(⟨a0_0, a0_1, l0_2⟩ : S32)]).bind fun t137 => (if t137 = true then (spec_SizesIn.l0 k (([] : List (S45))) (([] : List Int)) 1 a0_0 a0_1 l0_2) else (some ((([] : List (S45))), (([] : List Int)), 1)))
theorem spec_SizesIn.mono_l : ∀ k, (∀ y0 y1 y2 y3 y4 y5, LeO (spec_SizesIn.l0 k y0 y1 y2 y3 y4 y5) (spec_SizesIn.l0 (k + 1) y0 y1 y2 y3 y4 y5)) ∧ (∀ y0 y1 y2 y3 y4 y5 y6, LeO (spec_SizesIn.l1 k y0 y1 y2 y3 y4 y5 y6) (spec_SizesIn.l1 (k + 1) y0 y1 y2 y3 y4 y5 y6)) ∧ (∀ y0 y1 y2 y3 y4 y5 y6 y7 y8, LeO (spec_SizesIn.l2 k y0 y1 y2 y3 y4 y5 y6 y7 y8) (spec_SizesIn.l2 (k + 1) y0 y1 y2 y3 y4 y5 y6 y7 y8))
 | 0 => ⟨fun _ _ _ _ _ _ r h => by simp [spec_SizesIn.l0] at h, fun _ _ _ _ _ _ _ r h => by simp [spec_SizesIn.l1] at h, fun _ _ _ _ _ _ _ _ _ r h => by simp [spec_SizesIn.l2] at h⟩
 | k + 1 => by
  obtain ⟨ih0, ih1, ih2⟩ := spec_SizesIn.mono_l k; refine ⟨?_, ?_, ?_⟩
  ·
   intro y0 y1 y2 y3 y4 y5
   unfold spec_SizesIn.l0
   repeat' first
   | (with_reducible exact ih0 _ _ _ _ _ _)
   | (with_reducible exact ih1 _ _ _ _ _ _ _)
   | (with_reducible exact ih2 _ _ _ _ _ _ _ _ _)
   | (with_reducible exact spec_l01Ok.mono _ _)
   | (with_reducible exact LeO.refl _)
   | (with_reducible exact LeO.none _)
   | (with_reducible refine LeO.ite ?_ ?_)
   | (with_reducible refine LeO.bind ?_ (fun _ => ?_))
   | exact ih0 _ _ _ _ _ _
   | exact ih1 _ _ _ _ _ _ _
   | exact ih2 _ _ _ _ _ _ _ _ _
   | exact spec_l01Ok.mono _ _
   | exact LeO.none _
   | refine LeO.ite ?_ ?_
   | refine LeO.bind ?_ (fun _ => ?_)
  ·
   intro y0 y1 y2 y3 y4 y5 y6
   unfold spec_SizesIn.l1
   repeat' first
   | (with_reducible exact ih0 _ _ _ _ _ _)
   | (with_reducible exact ih1 _ _ _ _ _ _ _)
   | (with_reducible exact ih2 _ _ _ _ _ _ _ _ _)
   | (with_reducible exact spec_l01Ok.mono _ _)
   | (with_reducible exact LeO.refl _)
   | (with_reducible exact LeO.none _)
   | (with_reducible refine LeO.ite ?_ ?_)
   | (with_reducible refine LeO.bind ?_ (fun _ => ?_))
   | exact ih0 _ _ _ _ _ _
   | exact ih1 _ _ _ _ _ _ _
   | exact ih2 _ _ _ _ _ _ _ _ _
   | exact spec_l01Ok.mono _ _
   | exact LeO.none _
   | refine LeO.ite ?_ ?_
   | refine LeO.bind ?_ (fun _ => ?_)
  ·
   intro y0 y1 y2 y3 y4 y5 y6 y7 y8
   unfold spec_SizesIn.l2
   repeat' first
   | (with_reducible exact ih0 _ _ _ _ _ _)
   | (with_reducible exact ih1 _ _ _ _ _ _ _)
   | (with_reducible exact ih2 _ _ _ _ _ _ _ _ _)
   | (with_reducible exact spec_l01Ok.mono _ _)
   | (with_reducible exact LeO.refl _)
   | (with_reducible exact LeO.none _)
   | (with_reducible refine LeO.ite ?_ ?_)
   | (with_reducible refine LeO.bind ?_ (fun _ => ?_))
   | exact ih0 _ _ _ _ _ _
   | exact ih1 _ _ _ _ _ _ _
   | exact ih2 _ _ _ _ _ _ _ _ _
   | exact spec_l01Ok.mono _ _
   | exact LeO.none _
   | refine LeO.ite ?_ ?_
   | refine LeO.bind ?_ (fun _ => ?_)
theorem spec_SizesIn.mono : ∀ a0 a1 a2 k, LeO (spec_SizesIn.f k a0 a1 a2) (spec_SizesIn.f (k + 1) a0 a1 a2) := by
 intro a0 a1 a2 k; obtain ⟨ih0, ih1, ih2⟩ := spec_SizesIn.mono_l k
 unfold spec_SizesIn.f
 repeat' first
   | (with_reducible exact ih0 _ _ _ _ _ _)
   | (with_reducible exact ih1 _ _ _ _ _ _ _)
   | (with_reducible exact ih2 _ _ _ _ _ _ _ _ _)
   | (with_reducible exact spec_l01Ok.mono _ _)
   | (with_reducible exact LeO.refl _)
   | (with_reducible exact LeO.none _)
   | (with_reducible refine LeO.ite ?_ ?_)
   | (with_reducible refine LeO.bind ?_ (fun _ => ?_))
   | exact ih0 _ _ _ _ _ _
   | exact ih1 _ _ _ _ _ _ _
   | exact ih2 _ _ _ _ _ _ _ _ _
   | exact spec_l01Ok.mono _ _
   | exact LeO.none _
   | refine LeO.ite ?_ ?_
   | refine LeO.bind ?_ (fun _ => ?_)
set_option maxHeartbeats 8000000 in
set_option maxRecDepth 100000 in
theorem spec_SizesIn.calls (k : Nat) (a0_0 : Int) (a0_1 : Int) (A0_2 : Option Addr) (c0_2 : Nat) (l0_2 : List (S45)) (r1 : List (S45)) (r2 : List Int) (r3 : Int) (w : World) (hr0_2 : Kd.C k45 w A0_2 l0_2.length l0_2) (hc0_2 : l0_2.length ≤ c0_2) (h : spec_SizesIn.f k a0_0 a0_1 l0_2 = some (r1, r2, r3)) :
  Calls Try.prog 5 #[.agg #[.int .i8 a0_0, .int .i8 a0_1, .slice A0_2 l0_2.length c0_2]] w fun e w' => ∃ v0_ v1_ : Value, e = .returned (.tuple #[v0_, v1_, .int .i64 r3]) ∧ Kd.R k45 45 w' w.heap.size (fun _ => True) v0_ r1 ∧ Kd.R (Kd.int .i64) 2 w' w.heap.size (fun _ => True) v1_ r2 ∧ Below w.heap.size w w' := by
 have hu32 := Try.underlying32; have hu45 := Try.underlying45; have HR0_2 := am_ hr0_2; have HC0_2 := am_ hc0_2; clear hr0_2 hc0_2; have HB := am_ (Below.refl w.heap.size w); have H : ((spec_l01Ok.f k [(⟨a0_0, a0_1, l0_2⟩ : S32)]).bind fun t137 => (if t137 = true then (spec_SizesIn.l0 k (([] : List (S45))) (([] : List Int)) 1 a0_0 a0_1 l0_2) else (some ((([] : List (S45))), (([] : List Int)), 1)))) = some (r1, r2, r3) := h; clear h; replace H := Option.bind_eq_some_iff.mp H; obtain ⟨t137, A20, H⟩ := H; replace H : (if t137 = true then (spec_SizesIn.l0 k (([] : List (S45))) (([] : List Int)) 1 a0_0 a0_1 l0_2) else (some ((([] : List (S45))), (([] : List Int)), 1))) = some (r1, r2, r3) := H; have A2 := am_ A20; clear A20
 by_cases c3 : t137 = true
 ·
  subst c3; have H1 : (spec_SizesIn.l0 k (([] : List (S45))) (([] : List Int)) 1 a0_0 a0_1 l0_2) = some (r1, r2, r3) := by rw [if_pos rfl] at H; exact H
  clear H; have H := H1; clear H1; obtain ⟨y144, hy144⟩ : ∃ y_ : List (S45), y_ = (([] : List (S45))) := ⟨_, rfl⟩
  replace H : (spec_SizesIn.l0 k y144 (([] : List Int)) 1 a0_0 a0_1 l0_2) = some (r1, r2, r3) := by first | (rw [hy144]; with_reducible exact H) | (have H2_ := (Option.bind_some _ _).symm.trans H; rw [hy144]; with_reducible exact H2_) | (have H2_ := (Option.bind_some _ _).symm.trans H; with_reducible exact H2_) | with_reducible exact H | (rw [hy144]; exact H) | exact H
  have Ny144 := am_ hy144; clear hy144; obtain ⟨y147, hy147⟩ : ∃ y_ : List Int, y_ = (([] : List Int)) := ⟨_, rfl⟩
  replace H : (spec_SizesIn.l0 k y144 y147 1 a0_0 a0_1 l0_2) = some (r1, r2, r3) := by first | (rw [hy147]; with_reducible exact H) | (have H2_ := (Option.bind_some _ _).symm.trans H; rw [hy147]; with_reducible exact H2_) | (have H2_ := (Option.bind_some _ _).symm.trans H; with_reducible exact H2_) | with_reducible exact H | (rw [hy147]; exact H) | exact H
  have Ny147 := am_ hy147; clear hy147; have H' := am_ H; clear H
  go_enter Try.func5, Try.ntmps5
  go_wp2_with (first | ((with_reducible refine gate_dst (N := 1) rfl ?_); refine box_event ?hg (N := 1) ?hd (cs := #[.int .i8 a0_0, .int .i8 a0_1, .slice A0_2 l0_2.length c0_2]) (t := 32) ?hr ?_; (case hd => rfl); (case hg => rfl); (case hr => first | (go_simp; done) | (go_simp; rfl)); intro gb136 hg w4 hbox hb; have n0_ := am_ (bT_ (by repeat (first | (with_reducible first | exact HB.out | apply bA_ | apply bN_ | apply bD_) | exact HB.out)) hb); have n1_ := am_ (hbox); have n2_ := am_ ((by rw [hg]; exact (bZ_ (by repeat (first | (with_reducible first | exact HB.out | apply bA_ | apply bN_ | apply bD_) | exact HB.out))) : w.heap.size ≤ gb136)); have n3_ := n2_; clear HB; have HB := n0_; have BK136 := n1_; have GW136 := n2_; have GE136 := n3_; clear n0_ n1_ n2_ n3_; clear hb hbox hg) | ((with_reducible refine gate_callee (f := 17) rfl ?_); refine goesL_ (some 11) rfl rfl Try.func17 (by kernel_rfl) rfl #[.pointer (some ⟨gb136, 0, none⟩)] rfl (by (try simp only [List.map_toArray, List.map_cons, List.map_nil]); first | done | rfl | (simp only [List.length_drop, List.length_take]; rfl)) ?_; (with_reducible refine (spec_l01Ok.calls k _ 1 [(⟨a0_0, a0_1, l0_2⟩ : S32)] true _ ?side1 ?side2 A2.out).mono ?_); (case side1 => exact Kd.C_one_ (by (with_reducible repeat (first | apply kN_ | apply kD_ | apply kA_)); exact BK136.out) (k32_mk _ _ (by exact HC0_2.out) (by repeat (first | exact (cB_ HR0_2.out HB.out) | (with_reducible refine Kd.C_alloc ?_ _) | (with_reducible refine Kd.C_drewN ?_ _) | (with_reducible refine Kd.C_drew ?_))))); (case side2 => exact Nat.le_refl _); rintro e w5 ⟨rfl, hb⟩; refine ⟨_, rfl, ?_⟩; have n0_ := am_ (kB_ (g := gb136) (o := .cells #[.int .i8 a0_0, .int .i8 a0_1, .slice A0_2 l0_2.length c0_2] 32 (0, 0)) (by (with_reducible repeat (first | apply kN_ | apply kD_ | apply kA_)); exact BK136.out) hb); have n1_ := am_ (bT_ (by repeat (first | (with_reducible first | exact HB.out | apply bA_ | apply bN_ | apply bD_ | refine bS_ ?_ GE136.out) | exact HB.out)) hb); clear BK136; clear HB; have BK136 := n0_; have HB := n1_; clear n0_ n1_; (try clear hb); (try clear hb2); (try clear hk); (try clear hi)) | ((with_reducible refine gate_dst (N := 15) rfl ?_); refine Kd.R_lit k45 _ 45 ?hg (N := 15) ?hd (xs := ([] : List (S45))) (inner := []) (ok := fun _ => True) (okp := fun _ => True) ?hr ?hp (fun _ hk => hk) trivial (Below.refl _ _) (Nat.le_refl _) (by simp) ?_; (case hd => rfl); (case hg => rfl); (case hr => first | (go_simp; done) | (go_simp; rfl)); (case hp => exact (Reps.none _ _)); intro v145 w6 ho7 hb hg_ hnew_; clear hg_ hnew_; (first | rw [← Ny144.out] at ho7 | (simp only [Int.reduceToNat] at ho7; rw [← Ny144.out] at ho7)); have n0_ := am_ (Kd.R_lower ho7 (bZ_ (by repeat (first | (with_reducible first | exact HB.out | apply bA_ | apply bN_ | apply bD_ | refine bS_ ?_ GE136.out) | exact HB.out)))); have n1_ := am_ (kB_ (g := gb136) (o := .cells #[.int .i8 a0_0, .int .i8 a0_1, .slice A0_2 l0_2.length c0_2] 32 (0, 0)) (by (with_reducible repeat (first | apply kN_ | apply kD_ | apply kA_)); exact BK136.out) hb); have n2_ := am_ (bT_ (by repeat (first | (with_reducible first | exact HB.out | apply bA_ | apply bN_ | apply bD_ | refine bS_ ?_ GE136.out) | exact HB.out)) hb); clear BK136; clear HB; have HO146 := n0_; have BK136 := n1_; have HB := n2_; clear n0_ n1_ n2_; clear hb ho7) | ((with_reducible refine gate_dst (N := 16) rfl ?_); refine Kd.R_lit (Kd.int .i64) _ 2 ?hg (N := 16) ?hd (xs := ([] : List Int)) (inner := []) (ok := fun _ => True) (okp := fun _ => True) ?hr ?hp (fun _ hk => hk) trivial (Below.refl _ _) (Nat.le_refl _) (by simp) ?_; (case hd => rfl); (case hg => rfl); (case hr => first | (go_simp; done) | (go_simp; rfl)); (case hp => exact (Reps.none _ _)); intro v148 w8 ho9 hb hg_ hnew_; clear hg_ hnew_; (first | rw [← Ny147.out] at ho9 | (simp only [Int.reduceToNat] at ho9; rw [← Ny147.out] at ho9)); have n0_ := am_ (Kd.R_below (by (with_reducible repeat (first | apply Kd.R_alloc | apply Kd.R_drewN | apply Kd.R_drew)); exact HO146.out) hb); have n1_ := am_ (Kd.R_lower ho9 (bZ_ (by repeat (first | (with_reducible first | exact HB.out | apply bA_ | apply bN_ | apply bD_ | refine bS_ ?_ GE136.out) | exact HB.out)))); have n2_ := am_ (kB_ (g := gb136) (o := .cells #[.int .i8 a0_0, .int .i8 a0_1, .slice A0_2 l0_2.length c0_2] 32 (0, 0)) (by (with_reducible repeat (first | apply kN_ | apply kD_ | apply kA_)); exact BK136.out) hb); have n3_ := am_ (bT_ (by repeat (first | (with_reducible first | exact HB.out | apply bA_ | apply bN_ | apply bD_ | refine bS_ ?_ GE136.out) | exact HB.out)) hb); clear HO146; clear BK136; clear HB; have HO146 := n0_; have HO149 := n1_; have BK136 := n2_; have HB := n3_; clear n0_ n1_ n2_ n3_; clear hb ho9))
  go_loopg [5, 6, 7] k (fun kq v5 v6 v7 w' => ∃ (x5_1 : List (S45)) (x6_1 : List Int) (x7_1 : Int), v7 = .int .i8 x7_1 ∧ Aside0 (spec_SizesIn.l0 kq x5_1 x6_1 x7_1 a0_0 a0_1 l0_2 = some (r1, r2, r3)) ∧ Aside0 (kq ≤ k) ∧ Aside0 (Kd.R k45 45 w' w.heap.size (fun _ => True) v5 x5_1) ∧ Aside0 (Kd.R (Kd.int .i64) 2 w' w.heap.size (fun _ => True) v6 x6_1) ∧ Aside0 (w'.heap[gb136]? = some (.cells #[.int .i8 a0_0, .int .i8 a0_1, (.slice A0_2 l0_2.length c0_2)] 32 (0, 0))) ∧ Aside0 (Below w.heap.size w w'))
  case atStart => exact ⟨(y144), (y147), (1), (by first | rfl | (simp; done) | (simp [*]; done)), H', ⟨Nat.le_refl _⟩, ⟨by (with_reducible repeat (first | apply Kd.R_alloc | apply Kd.R_drewN | apply Kd.R_drew)); exact HO146.out⟩, ⟨by (with_reducible repeat (first | apply Kd.R_alloc | apply Kd.R_drewN | apply Kd.R_drew)); exact HO149.out⟩, ⟨by (with_reducible repeat (first | apply kN_ | apply kD_ | apply kA_)); exact BK136.out⟩, ⟨by repeat (first | (with_reducible first | exact HB.out | apply bA_ | apply bN_ | apply bD_ | refine bS_ ?_ GE136.out) | exact HB.out)⟩⟩
  case round =>
   clear H'; (try clear c1); (try clear p2); (try clear c3); (try clear c5); obtain ⟨x5_1, x6_1, x7_1, rfl, HA, HK1, HO_5, HO_6, BK136, HB⟩ := hrel
   cases gk with
   | zero => exact absurd HA.out (by simp [spec_SizesIn.l0])
   | succ k1 =>
    have H := HA.out; clear HA; simp only [spec_SizesIn.l0] at H
    by_cases c10 : x7_1 ≤ a0_0
    ·
     rw [if_pos c10] at H; have c10b0 : decide (x7_1 ≤ a0_0) = true := decide_eq_true c10; clear c10; have H' := am_ H; clear H; have hcz11_0 : wr.cell? ⟨gb136, 0, none⟩ = some (.int .i8 a0_0) := (kC_ BK136.out 0).trans rfl; have hcz11_1 : wr.cell? ⟨gb136, 1, none⟩ = some (.int .i8 a0_1) := (kC_ BK136.out 1).trans rfl; have hcz11_2 : wr.cell? ⟨gb136, 2, none⟩ = some (.slice A0_2 l0_2.length c0_2) := (kC_ BK136.out 2).trans rfl; have hfz11_0 := kF_ BK136.out 0; have hfz11_1 := kF_ BK136.out 1; have hfz11_2 := kF_ BK136.out 2
     go_wp2
     go_loopg [5, 6, 8] k1 (fun kq v5 v6 v8 w' => ∃ (x5_2 : List (S45)) (x6_2 : List Int) (x8_2 : Int), v8 = .int .i8 x8_2 ∧ Aside0 (spec_SizesIn.l1 kq x5_2 x6_2 x7_1 x8_2 a0_0 a0_1 l0_2 = some (r1, r2, r3)) ∧ Aside0 (kq ≤ k1) ∧ Aside0 (Kd.R k45 45 w' w.heap.size (fun _ => True) v5 x5_2) ∧ Aside0 (Kd.R (Kd.int .i64) 2 w' w.heap.size (fun _ => True) v6 x6_2) ∧ Aside0 (w'.heap[gb136]? = some (.cells #[.int .i8 a0_0, .int .i8 a0_1, (.slice A0_2 l0_2.length c0_2)] 32 (0, 0))) ∧ Aside0 (Below w.heap.size w w'))
     case atStart => exact ⟨(x5_1), (x6_1), (1), (by first | rfl | (simp; done) | (simp [*]; done)), H', ⟨Nat.le_refl _⟩, ⟨by (with_reducible repeat (first | apply Kd.R_alloc | apply Kd.R_drewN | apply Kd.R_drew)); exact HO_5.out⟩, ⟨by (with_reducible repeat (first | apply Kd.R_alloc | apply Kd.R_drewN | apply Kd.R_drew)); exact HO_6.out⟩, ⟨by (with_reducible repeat (first | apply kN_ | apply kD_ | apply kA_)); exact BK136.out⟩, ⟨by repeat (first | (with_reducible first | exact HB.out | apply bA_ | apply bN_ | apply bD_ | refine bS_ ?_ GE136.out) | exact HB.out)⟩⟩
     case round =>
      clear H'; (try clear c1); (try clear p2); (try clear c3); (try clear c5); (try clear c10); (try clear c10b0); (try clear hcz11_0); (try clear hcz11_1); (try clear hcz11_2); (try clear hfz11_0); (try clear hfz11_1); (try clear hfz11_2); (try clear p2); obtain ⟨x5_2, x6_2, x8_2, rfl, HA, HK2, HO_5, HO_6, BK136, HB⟩ := hrel
      cases gk with
      | zero => exact absurd HA.out (by simp [spec_SizesIn.l1])
      | succ k2 =>
       have H := HA.out; clear HA; simp only [spec_SizesIn.l1] at H
       by_cases c12 : x8_2 ≤ a0_1
       ·
        rw [if_pos c12] at H; have c12b0 : decide (x8_2 ≤ a0_1) = true := decide_eq_true c12; clear c12; have H' := am_ H; clear H; have hcz13_0 : wr.cell? ⟨gb136, 0, none⟩ = some (.int .i8 a0_0) := (kC_ BK136.out 0).trans rfl; have hcz13_1 : wr.cell? ⟨gb136, 1, none⟩ = some (.int .i8 a0_1) := (kC_ BK136.out 1).trans rfl; have hcz13_2 : wr.cell? ⟨gb136, 2, none⟩ = some (.slice A0_2 l0_2.length c0_2) := (kC_ BK136.out 2).trans rfl; have hfz13_0 := kF_ BK136.out 0; have hfz13_1 := kF_ BK136.out 1; have hfz13_2 := kF_ BK136.out 2
        go_wp2
        go_loopg [9, 10] k2 (fun kq v9 v10 w' => ∃ (x9_3 : Int) (x10_3 : Int), v9 = .int .i64 x9_3 ∧ v10 = .int .i64 x10_3 ∧ Aside0 (spec_SizesIn.l2 kq x5_2 x6_2 x7_1 x8_2 x9_3 x10_3 a0_0 a0_1 l0_2 = some (r1, r2, r3)) ∧ Aside0 (kq ≤ k2) ∧ Aside0 (Kd.R k45 45 w' w.heap.size (fun _ => True) u5 x5_2) ∧ Aside0 (Kd.R (Kd.int .i64) 2 w' w.heap.size (fun _ => True) u6 x6_2) ∧ Aside0 (w'.heap[gb136]? = some (.cells #[.int .i8 a0_0, .int .i8 a0_1, (.slice A0_2 l0_2.length c0_2)] 32 (0, 0))) ∧ Aside0 (Below w.heap.size w w'))
        case atStart => exact ⟨(0), (0), (by first | rfl | (simp; done) | (simp [*]; done)), (by first | rfl | (simp; done) | (simp [*]; done)), H', ⟨Nat.le_refl _⟩, ⟨by (with_reducible repeat (first | apply Kd.R_alloc | apply Kd.R_drewN | apply Kd.R_drew)); exact HO_5.out⟩, ⟨by (with_reducible repeat (first | apply Kd.R_alloc | apply Kd.R_drewN | apply Kd.R_drew)); exact HO_6.out⟩, ⟨by (with_reducible repeat (first | apply kN_ | apply kD_ | apply kA_)); exact BK136.out⟩, ⟨by repeat (first | (with_reducible first | exact HB.out | apply bA_ | apply bN_ | apply bD_ | refine bS_ ?_ GE136.out) | exact HB.out)⟩⟩
        case round =>
         clear H'; (try clear c1); (try clear p2); (try clear c3); (try clear c5); (try clear c10); (try clear c10b0); (try clear c12); (try clear c12b0); (try clear hcz11_0); (try clear hcz11_1); (try clear hcz11_2); (try clear hcz13_0); (try clear hcz13_1); (try clear hcz13_2); (try clear hfz11_0); (try clear hfz11_1); (try clear hfz11_2); (try clear hfz13_0); (try clear hfz13_1); (try clear hfz13_2); (try clear p2); obtain ⟨x9_3, x10_3, rfl, rfl, HA, HK3, HO_5, HO_6, BK136, HB⟩ := hrel
         cases gk with
         | zero => exact absurd HA.out (by simp [spec_SizesIn.l2])
         | succ k3 =>
          have H := HA.out; clear HA; simp only [spec_SizesIn.l2] at H
          by_cases c14 : x10_3 < (l0_2.length : Int)
          ·
           rw [if_pos c14] at H; have c14b0 : decide (x10_3 < (l0_2.length : Int)) = true := decide_eq_true c14; clear c14
           by_cases c15 : 0 ≤ x10_3
           ·
            rw [if_pos c15] at H; have c15b0 : decide (0 ≤ x10_3) = true := decide_eq_true c15; clear c15
            by_cases c16 : ((rd_T45 l0_2 x10_3).f2) = x7_1
            ·
             rw [if_pos c16] at H; have c16b0 : (((rd_T45 l0_2 x10_3).f2) == x7_1) = true := beq_iff_eq.mpr c16; have c16b1 : (((rd_T45 l0_2 x10_3).f2) != x7_1) = false := bne_eq_false_iff_eq.mpr c16; clear c16
             by_cases c17 : ((rd_T45 l0_2 x10_3).f3) = x8_2
             ·
              rw [if_pos c17] at H; have c17b0 : (((rd_T45 l0_2 x10_3).f3) == x8_2) = true := beq_iff_eq.mpr c17; have c17b1 : (((rd_T45 l0_2 x10_3).f3) != x8_2) = false := bne_eq_false_iff_eq.mpr c17; clear c17; have H' := am_ H; clear H; have hcz18_0 : wr.cell? ⟨gb136, 0, none⟩ = some (.int .i8 a0_0) := (kC_ BK136.out 0).trans rfl; have hcz18_1 : wr.cell? ⟨gb136, 1, none⟩ = some (.int .i8 a0_1) := (kC_ BK136.out 1).trans rfl; have hcz18_2 : wr.cell? ⟨gb136, 2, none⟩ = some (.slice A0_2 l0_2.length c0_2) := (kC_ BK136.out 2).trans rfl; have hfz18_0 := kF_ BK136.out 0; have hfz18_1 := kF_ BK136.out 1; have hfz18_2 := kF_ BK136.out 2; have p150 : 0 ≤ (x10_3 : Int) := od_ (by first | (with_reducible assumption) | assumption); have q150 : x10_3 < (l0_2.length : Int) := od_ (by first | (with_reducible assumption) | assumption); obtain ⟨ad150, e150, hx150_0, hx150_1, hx150_2, hx150_3⟩ := at_T45 HR0_2.out x10_3 p150 q150
              cases e150
              replace hx150_0 := (HB.out.cell (bl_ w _ hx150_0)).trans hx150_0; replace hx150_1 := (HB.out.cell (bl_ w _ hx150_1)).trans hx150_1; replace hx150_2 := (HB.out.cell (bl_ w _ hx150_2)).trans hx150_2; replace hx150_3 := (HB.out.cell (bl_ w _ hx150_3)).trans hx150_3; replace p150 := eq_true p150; replace q150 := eq_true q150; have p151 : 0 ≤ (x10_3 : Int) := od_ (by first | (with_reducible assumption) | assumption); have q151 : x10_3 < (l0_2.length : Int) := od_ (by first | (with_reducible assumption) | assumption); obtain ⟨ad151, e151, hx151_0, hx151_1, hx151_2, hx151_3⟩ := at_T45 HR0_2.out x10_3 p151 q151; obtain rfl : ad150 = ad151 := (by injection e151)
              replace hx151_0 := (HB.out.cell (bl_ w _ hx151_0)).trans hx151_0; replace hx151_1 := (HB.out.cell (bl_ w _ hx151_1)).trans hx151_1; replace hx151_2 := (HB.out.cell (bl_ w _ hx151_2)).trans hx151_2; replace hx151_3 := (HB.out.cell (bl_ w _ hx151_3)).trans hx151_3; replace p151 := eq_true p151; replace q151 := eq_true q151
              go_wp2
              go_roundg k3
              case measure => have := HK1.out; have := HK2.out; have := HK3.out; omega
              case rel => exact ⟨(wrap64 (x9_3 + 1)), (wrap64 (x10_3 + 1)), (by first | rfl | (simp; done) | (simp [*]; done)), (by first | rfl | (simp; done) | (simp [*]; done)), H', ⟨by have := HK1.out; have := HK2.out; have := HK3.out; omega⟩, ⟨by (with_reducible repeat (first | apply Kd.R_alloc | apply Kd.R_drewN | apply Kd.R_drew)); exact HO_5.out⟩, ⟨by (with_reducible repeat (first | apply Kd.R_alloc | apply Kd.R_drewN | apply Kd.R_drew)); exact HO_6.out⟩, ⟨by (with_reducible repeat (first | apply kN_ | apply kD_ | apply kA_)); exact BK136.out⟩, ⟨by repeat (first | (with_reducible first | exact HB.out | apply bA_ | apply bN_ | apply bD_ | refine bS_ ?_ GE136.out) | exact HB.out)⟩⟩
             ·
              rw [if_neg c17] at H; have c17b0 : (((rd_T45 l0_2 x10_3).f3) == x8_2) = false := beq_eq_false_iff_ne.mpr c17; have c17b1 : (((rd_T45 l0_2 x10_3).f3) != x8_2) = true := bne_iff_ne.mpr c17; have H' := am_ H; clear H; have hcz19_0 : wr.cell? ⟨gb136, 0, none⟩ = some (.int .i8 a0_0) := (kC_ BK136.out 0).trans rfl; have hcz19_1 : wr.cell? ⟨gb136, 1, none⟩ = some (.int .i8 a0_1) := (kC_ BK136.out 1).trans rfl; have hcz19_2 : wr.cell? ⟨gb136, 2, none⟩ = some (.slice A0_2 l0_2.length c0_2) := (kC_ BK136.out 2).trans rfl; have hfz19_0 := kF_ BK136.out 0; have hfz19_1 := kF_ BK136.out 1; have hfz19_2 := kF_ BK136.out 2; have p150 : 0 ≤ (x10_3 : Int) := od_ (by first | (with_reducible assumption) | assumption); have q150 : x10_3 < (l0_2.length : Int) := od_ (by first | (with_reducible assumption) | assumption); obtain ⟨ad150, e150, hx150_0, hx150_1, hx150_2, hx150_3⟩ := at_T45 HR0_2.out x10_3 p150 q150
              cases e150
              replace hx150_0 := (HB.out.cell (bl_ w _ hx150_0)).trans hx150_0; replace hx150_1 := (HB.out.cell (bl_ w _ hx150_1)).trans hx150_1; replace hx150_2 := (HB.out.cell (bl_ w _ hx150_2)).trans hx150_2; replace hx150_3 := (HB.out.cell (bl_ w _ hx150_3)).trans hx150_3; replace p150 := eq_true p150; replace q150 := eq_true q150; have p151 : 0 ≤ (x10_3 : Int) := od_ (by first | (with_reducible assumption) | assumption); have q151 : x10_3 < (l0_2.length : Int) := od_ (by first | (with_reducible assumption) | assumption); obtain ⟨ad151, e151, hx151_0, hx151_1, hx151_2, hx151_3⟩ := at_T45 HR0_2.out x10_3 p151 q151; obtain rfl : ad150 = ad151 := (by injection e151)
              replace hx151_0 := (HB.out.cell (bl_ w _ hx151_0)).trans hx151_0; replace hx151_1 := (HB.out.cell (bl_ w _ hx151_1)).trans hx151_1; replace hx151_2 := (HB.out.cell (bl_ w _ hx151_2)).trans hx151_2; replace hx151_3 := (HB.out.cell (bl_ w _ hx151_3)).trans hx151_3; replace p151 := eq_true p151; replace q151 := eq_true q151
              go_wp2
              go_roundg k3
              case measure => have := HK1.out; have := HK2.out; have := HK3.out; omega
              case rel => exact ⟨(x9_3), (wrap64 (x10_3 + 1)), (by first | rfl | (simp; done) | (simp [*]; done)), (by first | rfl | (simp; done) | (simp [*]; done)), H', ⟨by have := HK1.out; have := HK2.out; have := HK3.out; omega⟩, ⟨by (with_reducible repeat (first | apply Kd.R_alloc | apply Kd.R_drewN | apply Kd.R_drew)); exact HO_5.out⟩, ⟨by (with_reducible repeat (first | apply Kd.R_alloc | apply Kd.R_drewN | apply Kd.R_drew)); exact HO_6.out⟩, ⟨by (with_reducible repeat (first | apply kN_ | apply kD_ | apply kA_)); exact BK136.out⟩, ⟨by repeat (first | (with_reducible first | exact HB.out | apply bA_ | apply bN_ | apply bD_ | refine bS_ ?_ GE136.out) | exact HB.out)⟩⟩
            ·
             rw [if_neg c16] at H; have c16b0 : (((rd_T45 l0_2 x10_3).f2) == x7_1) = false := beq_eq_false_iff_ne.mpr c16; have c16b1 : (((rd_T45 l0_2 x10_3).f2) != x7_1) = true := bne_iff_ne.mpr c16; have H' := am_ H; clear H; have hcz20_0 : wr.cell? ⟨gb136, 0, none⟩ = some (.int .i8 a0_0) := (kC_ BK136.out 0).trans rfl; have hcz20_1 : wr.cell? ⟨gb136, 1, none⟩ = some (.int .i8 a0_1) := (kC_ BK136.out 1).trans rfl; have hcz20_2 : wr.cell? ⟨gb136, 2, none⟩ = some (.slice A0_2 l0_2.length c0_2) := (kC_ BK136.out 2).trans rfl; have hfz20_0 := kF_ BK136.out 0; have hfz20_1 := kF_ BK136.out 1; have hfz20_2 := kF_ BK136.out 2; have p150 : 0 ≤ (x10_3 : Int) := od_ (by first | (with_reducible assumption) | assumption); have q150 : x10_3 < (l0_2.length : Int) := od_ (by first | (with_reducible assumption) | assumption); obtain ⟨ad150, e150, hx150_0, hx150_1, hx150_2, hx150_3⟩ := at_T45 HR0_2.out x10_3 p150 q150
             cases e150
             replace hx150_0 := (HB.out.cell (bl_ w _ hx150_0)).trans hx150_0; replace hx150_1 := (HB.out.cell (bl_ w _ hx150_1)).trans hx150_1; replace hx150_2 := (HB.out.cell (bl_ w _ hx150_2)).trans hx150_2; replace hx150_3 := (HB.out.cell (bl_ w _ hx150_3)).trans hx150_3; replace p150 := eq_true p150; replace q150 := eq_true q150
             go_wp2
             go_roundg k3
             case measure => have := HK1.out; have := HK2.out; have := HK3.out; omega
             case rel => exact ⟨(x9_3), (wrap64 (x10_3 + 1)), (by first | rfl | (simp; done) | (simp [*]; done)), (by first | rfl | (simp; done) | (simp [*]; done)), H', ⟨by have := HK1.out; have := HK2.out; have := HK3.out; omega⟩, ⟨by (with_reducible repeat (first | apply Kd.R_alloc | apply Kd.R_drewN | apply Kd.R_drew)); exact HO_5.out⟩, ⟨by (with_reducible repeat (first | apply Kd.R_alloc | apply Kd.R_drewN | apply Kd.R_drew)); exact HO_6.out⟩, ⟨by (with_reducible repeat (first | apply kN_ | apply kD_ | apply kA_)); exact BK136.out⟩, ⟨by repeat (first | (with_reducible first | exact HB.out | apply bA_ | apply bN_ | apply bD_ | refine bS_ ?_ GE136.out) | exact HB.out)⟩⟩
           ·
            rw [if_neg c15] at H; exact absurd H (by simp)
          ·
           rw [if_neg c14] at H; have c14b0 : decide (x10_3 < (l0_2.length : Int)) = false := decide_eq_false c14; clear c14
           by_cases c21 : x9_3 > 0
           ·
            rw [if_pos c21] at H; have c21b0 : decide (0 < x9_3) = true := decide_eq_true c21; clear c21
            by_cases c22 : x5_2.length < 35184372088832
            ·
             rw [if_pos c22] at H; have LMc22 := am_ c22; clear c22; obtain ⟨y152, hy152⟩ : ∃ y_ : List (S45), y_ = (x5_2 ++ [(⟨0, 0, x7_1, x8_2⟩ : S45)]) := ⟨_, rfl⟩
             replace H : (if x6_2.length < 17592186044416 then (spec_SizesIn.l1 k3 y152 (x6_2 ++ [x9_3]) x7_1 (IntKind.i8.wrap (x8_2 + 1)) a0_0 a0_1 l0_2) else (none)) = some (r1, r2, r3) := by first | (rw [hy152]; with_reducible exact H) | (have H2_ := (Option.bind_some _ _).symm.trans H; rw [hy152]; with_reducible exact H2_) | (have H2_ := (Option.bind_some _ _).symm.trans H; with_reducible exact H2_) | with_reducible exact H | (rw [hy152]; exact H) | exact H
             have Ny152 := am_ hy152; clear hy152
             by_cases c23 : x6_2.length < 17592186044416
             ·
              rw [if_pos c23] at H; have LMc23 := am_ c23; clear c23; obtain ⟨y155, hy155⟩ : ∃ y_ : List Int, y_ = (x6_2 ++ [x9_3]) := ⟨_, rfl⟩
              replace H : (spec_SizesIn.l1 k3 y152 y155 x7_1 (IntKind.i8.wrap (x8_2 + 1)) a0_0 a0_1 l0_2) = some (r1, r2, r3) := by first | (rw [hy155]; with_reducible exact H) | (have H2_ := (Option.bind_some _ _).symm.trans H; rw [hy155]; with_reducible exact H2_) | (have H2_ := (Option.bind_some _ _).symm.trans H; with_reducible exact H2_) | with_reducible exact H | (rw [hy155]; exact H) | exact H
              have Ny155 := am_ hy155; clear hy155; have H' := am_ H; clear H; have hcz24_0 : wr.cell? ⟨gb136, 0, none⟩ = some (.int .i8 a0_0) := (kC_ BK136.out 0).trans rfl; have hcz24_1 : wr.cell? ⟨gb136, 1, none⟩ = some (.int .i8 a0_1) := (kC_ BK136.out 1).trans rfl; have hcz24_2 : wr.cell? ⟨gb136, 2, none⟩ = some (.slice A0_2 l0_2.length c0_2) := (kC_ BK136.out 2).trans rfl; have hfz24_0 := kF_ BK136.out 0; have hfz24_1 := kF_ BK136.out 1; have hfz24_2 := kF_ BK136.out 2
              go_wp2_with (first | ((with_reducible refine gate_builtin (b := .append) (xs := #[.tmp 58, .tmp 62]) rfl ?_); at_builtin; refine Kd.R_append k45 (w0 := w) w.heap.size rfl (.tmp 58) (.tmp 62) 27 45 (.agg #[(.int .i8 0), (.int .i8 0), (.int .i8 0), (.int .i8 0)]) 4 rfl Try.underlying27 info45 rfl (by decide) (by omega) u5 x5_2 (⟨0, 0, x7_1, x8_2⟩ : S45) [.int .i8 0, .int .i8 0, .int .i8 x7_1, .int .i8 x8_2] (fun _ => True) (fun _ => False) rfl rfl ?aP (fun _ hk => hk.elim) ?aF ?aO ?aB ?aS ?aL ?_; (case aP => exact k45_mkM _ _ _ (⟨0, 0, x7_1, x8_2⟩ : S45)); (case aB => exact (by repeat (first | (with_reducible first | exact HB.out | apply bA_ | apply bN_ | apply bD_ | refine bS_ ?_ GE136.out) | exact HB.out))); (case aF => exact (fun _ _ => trivial)); (case aO => exact (by (with_reducible repeat (first | apply Kd.R_alloc | apply Kd.R_drewN | apply Kd.R_drew)); exact HO_5.out)); (case aS => exact (bZ_ (by repeat (first | (with_reducible first | exact HB.out | apply bA_ | apply bN_ | apply bD_ | refine bS_ ?_ GE136.out) | exact HB.out)))); (case aL => have := LMc22.out; omega); intro v153 w25 ho hb hg hat; rw [← Ny152.out] at ho; have n0_ := am_ (Kd.R_over' (by (with_reducible repeat (first | apply Kd.R_alloc | apply Kd.R_drewN | apply Kd.R_drew)); exact HO_6.out) (Kd.R_typed (by (with_reducible repeat (first | apply Kd.R_alloc | apply Kd.R_drewN | apply Kd.R_drew)); exact HO_5.out)) (by decide) hg); have n1_ := am_ (blk_grown (g := gb136) (o := .cells #[.int .i8 a0_0, .int .i8 a0_1, .slice A0_2 l0_2.length c0_2] 32 (0, 0)) (by (with_reducible repeat (first | apply kN_ | apply kD_ | apply kA_)); exact BK136.out) hg (Kd.R_ne HO_5.out BK136.out (by decide))); have n2_ := am_ (hb); have n3_ := am_ (ho); clear HO_6; clear BK136; clear HB; clear HO_5; have HO_6 := n0_; have BK136 := n1_; have HB := n2_; have HO154 := n3_; clear n0_ n1_ n2_ n3_; clear ho hb hg hat) | ((with_reducible refine gate_builtin (b := .append) (xs := #[.tmp 64, .tmp 66]) rfl ?_); at_builtin; refine Kd.R_append (Kd.int .i64) (w0 := w) w.heap.size rfl (.tmp 64) (.tmp 66) 28 2 (.int .i64 0) 8 rfl Try.underlying28 info2 rfl (by decide) (by omega) u6 x6_2 x9_3 [.int .i64 x9_3] (fun _ => True) (fun _ => False) rfl rfl ?aP (fun _ hk => hk.elim) ?aF ?aO ?aB ?aS ?aL ?_; (case aP => exact rfl); (case aB => exact (by repeat (first | (with_reducible first | exact HB.out | apply bA_ | apply bN_ | apply bD_ | refine bS_ ?_ GE136.out) | exact HB.out))); (case aF => exact (fun _ _ => trivial)); (case aO => exact (by (with_reducible repeat (first | apply Kd.R_alloc | apply Kd.R_drewN | apply Kd.R_drew)); exact HO_6.out)); (case aS => exact (bZ_ (by repeat (first | (with_reducible first | exact HB.out | apply bA_ | apply bN_ | apply bD_ | refine bS_ ?_ GE136.out) | exact HB.out)))); (case aL => have := LMc23.out; omega); intro v156 w26 ho hb hg hat; rw [← Ny155.out] at ho; have n0_ := am_ (blk_grown (g := gb136) (o := .cells #[.int .i8 a0_0, .int .i8 a0_1, .slice A0_2 l0_2.length c0_2] 32 (0, 0)) (by (with_reducible repeat (first | apply kN_ | apply kD_ | apply kA_)); exact BK136.out) hg (Kd.R_ne HO_6.out BK136.out (by decide))); have n1_ := am_ (Kd.R_over' (by (with_reducible repeat (first | apply Kd.R_alloc | apply Kd.R_drewN | apply Kd.R_drew)); exact HO154.out) (Kd.R_typed (by (with_reducible repeat (first | apply Kd.R_alloc | apply Kd.R_drewN | apply Kd.R_drew)); exact HO_6.out)) (by decide) hg); have n2_ := am_ (hb); have n3_ := am_ (ho); clear BK136; clear HO154; clear HB; clear HO_6; have BK136 := n0_; have HO154 := n1_; have HB := n2_; have HO157 := n3_; clear n0_ n1_ n2_ n3_; clear ho hb hg hat))
              go_roundg k3
              case measure => have := HK1.out; have := HK2.out; have := HK3.out; omega
              case rel => exact ⟨(y152), (y155), (IntKind.i8.wrap (x8_2 + 1)), (by first | rfl | (simp; done) | (simp [*]; done)), H', ⟨by have := HK1.out; have := HK2.out; have := HK3.out; omega⟩, ⟨by (with_reducible repeat (first | apply Kd.R_alloc | apply Kd.R_drewN | apply Kd.R_drew)); exact HO154.out⟩, ⟨by (with_reducible repeat (first | apply Kd.R_alloc | apply Kd.R_drewN | apply Kd.R_drew)); exact HO157.out⟩, ⟨by (with_reducible repeat (first | apply kN_ | apply kD_ | apply kA_)); exact BK136.out⟩, ⟨by repeat (first | (with_reducible first | exact HB.out | apply bA_ | apply bN_ | apply bD_ | refine bS_ ?_ GE136.out) | exact HB.out)⟩⟩
             ·
              rw [if_neg c23] at H; exact absurd H (by simp)
            ·
             rw [if_neg c22] at H; exact absurd H (by simp)
           ·
            rw [if_neg c21] at H; have c21b0 : decide (0 < x9_3) = false := decide_eq_false c21; clear c21; have H' := am_ H; clear H; have hcz27_0 : wr.cell? ⟨gb136, 0, none⟩ = some (.int .i8 a0_0) := (kC_ BK136.out 0).trans rfl; have hcz27_1 : wr.cell? ⟨gb136, 1, none⟩ = some (.int .i8 a0_1) := (kC_ BK136.out 1).trans rfl; have hcz27_2 : wr.cell? ⟨gb136, 2, none⟩ = some (.slice A0_2 l0_2.length c0_2) := (kC_ BK136.out 2).trans rfl; have hfz27_0 := kF_ BK136.out 0; have hfz27_1 := kF_ BK136.out 1; have hfz27_2 := kF_ BK136.out 2
            go_wp2
            go_roundg k3
            case measure => have := HK1.out; have := HK2.out; have := HK3.out; omega
            case rel => exact ⟨(x5_2), (x6_2), (IntKind.i8.wrap (x8_2 + 1)), (by first | rfl | (simp; done) | (simp [*]; done)), H', ⟨by have := HK1.out; have := HK2.out; have := HK3.out; omega⟩, ⟨by (with_reducible repeat (first | apply Kd.R_alloc | apply Kd.R_drewN | apply Kd.R_drew)); exact HO_5.out⟩, ⟨by (with_reducible repeat (first | apply Kd.R_alloc | apply Kd.R_drewN | apply Kd.R_drew)); exact HO_6.out⟩, ⟨by (with_reducible repeat (first | apply kN_ | apply kD_ | apply kA_)); exact BK136.out⟩, ⟨by repeat (first | (with_reducible first | exact HB.out | apply bA_ | apply bN_ | apply bD_ | refine bS_ ?_ GE136.out) | exact HB.out)⟩⟩
       ·
        rw [if_neg c12] at H; have c12b0 : decide (x8_2 ≤ a0_1) = false := decide_eq_false c12; clear c12; have H' := am_ H; clear H; have hcz28_0 : wr.cell? ⟨gb136, 0, none⟩ = some (.int .i8 a0_0) := (kC_ BK136.out 0).trans rfl; have hcz28_1 : wr.cell? ⟨gb136, 1, none⟩ = some (.int .i8 a0_1) := (kC_ BK136.out 1).trans rfl; have hcz28_2 : wr.cell? ⟨gb136, 2, none⟩ = some (.slice A0_2 l0_2.length c0_2) := (kC_ BK136.out 2).trans rfl; have hfz28_0 := kF_ BK136.out 0; have hfz28_1 := kF_ BK136.out 1; have hfz28_2 := kF_ BK136.out 2
        go_wp2
        go_roundg k2
        case measure => have := HK1.out; have := HK2.out; omega
        case rel => exact ⟨(x5_2), (x6_2), (IntKind.i8.wrap (x7_1 + 1)), (by first | rfl | (simp; done) | (simp [*]; done)), H', ⟨by have := HK1.out; have := HK2.out; omega⟩, ⟨by (with_reducible repeat (first | apply Kd.R_alloc | apply Kd.R_drewN | apply Kd.R_drew)); exact HO_5.out⟩, ⟨by (with_reducible repeat (first | apply Kd.R_alloc | apply Kd.R_drewN | apply Kd.R_drew)); exact HO_6.out⟩, ⟨by (with_reducible repeat (first | apply kN_ | apply kD_ | apply kA_)); exact BK136.out⟩, ⟨by repeat (first | (with_reducible first | exact HB.out | apply bA_ | apply bN_ | apply bD_ | refine bS_ ?_ GE136.out) | exact HB.out)⟩⟩
    ·
     rw [if_neg c10] at H; have c10b0 : decide (x7_1 ≤ a0_0) = false := decide_eq_false c10; clear c10; simp only [Option.some.injEq, Prod.mk.injEq] at H; obtain ⟨rfl, rfl, rfl⟩ := H; have hcz29_0 : wr.cell? ⟨gb136, 0, none⟩ = some (.int .i8 a0_0) := (kC_ BK136.out 0).trans rfl; have hcz29_1 : wr.cell? ⟨gb136, 1, none⟩ = some (.int .i8 a0_1) := (kC_ BK136.out 1).trans rfl; have hcz29_2 : wr.cell? ⟨gb136, 2, none⟩ = some (.slice A0_2 l0_2.length c0_2) := (kC_ BK136.out 2).trans rfl; have hfz29_0 := kF_ BK136.out 0; have hfz29_1 := kF_ BK136.out 1; have hfz29_2 := kF_ BK136.out 2
     go_wp2
     go_ret3
     exact ⟨_, _, by first | rfl | (simp [errW_none, errW_some] <;> rfl) | (simp [*, errW_none, errW_some] <;> rfl), by (with_reducible repeat (first | apply Kd.R_alloc | apply Kd.R_drewN | apply Kd.R_drew)); exact HO_5.out, by (with_reducible repeat (first | apply Kd.R_alloc | apply Kd.R_drewN | apply Kd.R_drew)); exact HO_6.out, by repeat (first | (with_reducible first | exact HB.out | apply bA_ | apply bN_ | apply bD_ | refine bS_ ?_ GE136.out) | exact HB.out)⟩
 ·
  replace c3 := Bool.eq_false_iff.mpr c3; subst c3; have H1 : (some ((([] : List (S45))), (([] : List Int)), 1)) = some (r1, r2, r3) := by rw [if_neg (show ¬ (false = true) by decide)] at H; exact H
  clear H; have H := H1; clear H1; obtain ⟨y138, hy138⟩ : ∃ y_ : List (S45), y_ = (([] : List (S45))) := ⟨_, rfl⟩
  replace H : (some (y138, (([] : List Int)), 1)) = some (r1, r2, r3) := by first | (rw [hy138]; with_reducible exact H) | (have H2_ := (Option.bind_some _ _).symm.trans H; rw [hy138]; with_reducible exact H2_) | (have H2_ := (Option.bind_some _ _).symm.trans H; with_reducible exact H2_) | with_reducible exact H | (rw [hy138]; exact H) | exact H
  have Ny138 := am_ hy138; clear hy138; obtain ⟨y141, hy141⟩ : ∃ y_ : List Int, y_ = (([] : List Int)) := ⟨_, rfl⟩
  replace H : (some (y138, y141, 1)) = some (r1, r2, r3) := by first | (rw [hy141]; with_reducible exact H) | (have H2_ := (Option.bind_some _ _).symm.trans H; rw [hy141]; with_reducible exact H2_) | (have H2_ := (Option.bind_some _ _).symm.trans H; with_reducible exact H2_) | with_reducible exact H | (rw [hy141]; exact H) | exact H
  have Ny141 := am_ hy141; clear hy141; simp only [Option.some.injEq, Prod.mk.injEq] at H; obtain ⟨rfl, rfl, rfl⟩ := H
  go_enter Try.func5, Try.ntmps5
  go_wp2_with (first | ((with_reducible refine gate_dst (N := 1) rfl ?_); refine box_event ?hg (N := 1) ?hd (cs := #[.int .i8 a0_0, .int .i8 a0_1, .slice A0_2 l0_2.length c0_2]) (t := 32) ?hr ?_; (case hd => rfl); (case hg => rfl); (case hr => first | (go_simp; done) | (go_simp; rfl)); intro gb136 hg w30 hbox hb; have n0_ := am_ (bT_ (by repeat (first | (with_reducible first | exact HB.out | apply bA_ | apply bN_ | apply bD_) | exact HB.out)) hb); have n1_ := am_ (hbox); have n2_ := am_ ((by rw [hg]; exact (bZ_ (by repeat (first | (with_reducible first | exact HB.out | apply bA_ | apply bN_ | apply bD_) | exact HB.out))) : w.heap.size ≤ gb136)); have n3_ := n2_; clear HB; have HB := n0_; have BK136 := n1_; have GW136 := n2_; have GE136 := n3_; clear n0_ n1_ n2_ n3_; clear hb hbox hg) | ((with_reducible refine gate_callee (f := 17) rfl ?_); refine goesL_ (some 11) rfl rfl Try.func17 (by kernel_rfl) rfl #[.pointer (some ⟨gb136, 0, none⟩)] rfl (by (try simp only [List.map_toArray, List.map_cons, List.map_nil]); first | done | rfl | (simp only [List.length_drop, List.length_take]; rfl)) ?_; (with_reducible refine (spec_l01Ok.calls k _ 1 [(⟨a0_0, a0_1, l0_2⟩ : S32)] false _ ?side1 ?side2 A2.out).mono ?_); (case side1 => exact Kd.C_one_ (by (with_reducible repeat (first | apply kN_ | apply kD_ | apply kA_)); exact BK136.out) (k32_mk _ _ (by exact HC0_2.out) (by repeat (first | exact (cB_ HR0_2.out HB.out) | (with_reducible refine Kd.C_alloc ?_ _) | (with_reducible refine Kd.C_drewN ?_ _) | (with_reducible refine Kd.C_drew ?_))))); (case side2 => exact Nat.le_refl _); rintro e w31 ⟨rfl, hb⟩; refine ⟨_, rfl, ?_⟩; have n0_ := am_ (kB_ (g := gb136) (o := .cells #[.int .i8 a0_0, .int .i8 a0_1, .slice A0_2 l0_2.length c0_2] 32 (0, 0)) (by (with_reducible repeat (first | apply kN_ | apply kD_ | apply kA_)); exact BK136.out) hb); have n1_ := am_ (bT_ (by repeat (first | (with_reducible first | exact HB.out | apply bA_ | apply bN_ | apply bD_ | refine bS_ ?_ GE136.out) | exact HB.out)) hb); clear BK136; clear HB; have BK136 := n0_; have HB := n1_; clear n0_ n1_; (try clear hb); (try clear hb2); (try clear hk); (try clear hi)) | ((with_reducible refine gate_dst (N := 13) rfl ?_); refine Kd.R_lit k45 _ 45 ?hg (N := 13) ?hd (xs := ([] : List (S45))) (inner := []) (ok := fun _ => True) (okp := fun _ => True) ?hr ?hp (fun _ hk => hk) trivial (Below.refl _ _) (Nat.le_refl _) (by simp) ?_; (case hd => rfl); (case hg => rfl); (case hr => first | (go_simp; done) | (go_simp; rfl)); (case hp => exact (Reps.none _ _)); intro v139 w32 ho33 hb hg_ hnew_; clear hg_ hnew_; (first | rw [← Ny138.out] at ho33 | (simp only [Int.reduceToNat] at ho33; rw [← Ny138.out] at ho33)); have n0_ := am_ (Kd.R_lower ho33 (bZ_ (by repeat (first | (with_reducible first | exact HB.out | apply bA_ | apply bN_ | apply bD_ | refine bS_ ?_ GE136.out) | exact HB.out)))); have n1_ := am_ (kB_ (g := gb136) (o := .cells #[.int .i8 a0_0, .int .i8 a0_1, .slice A0_2 l0_2.length c0_2] 32 (0, 0)) (by (with_reducible repeat (first | apply kN_ | apply kD_ | apply kA_)); exact BK136.out) hb); have n2_ := am_ (bT_ (by repeat (first | (with_reducible first | exact HB.out | apply bA_ | apply bN_ | apply bD_ | refine bS_ ?_ GE136.out) | exact HB.out)) hb); clear BK136; clear HB; have HO140 := n0_; have BK136 := n1_; have HB := n2_; clear n0_ n1_ n2_; clear hb ho33) | ((with_reducible refine gate_dst (N := 14) rfl ?_); refine Kd.R_lit (Kd.int .i64) _ 2 ?hg (N := 14) ?hd (xs := ([] : List Int)) (inner := []) (ok := fun _ => True) (okp := fun _ => True) ?hr ?hp (fun _ hk => hk) trivial (Below.refl _ _) (Nat.le_refl _) (by simp) ?_; (case hd => rfl); (case hg => rfl); (case hr => first | (go_simp; done) | (go_simp; rfl)); (case hp => exact (Reps.none _ _)); intro v142 w34 ho35 hb hg_ hnew_; clear hg_ hnew_; (first | rw [← Ny141.out] at ho35 | (simp only [Int.reduceToNat] at ho35; rw [← Ny141.out] at ho35)); have n0_ := am_ (Kd.R_below (by (with_reducible repeat (first | apply Kd.R_alloc | apply Kd.R_drewN | apply Kd.R_drew)); exact HO140.out) hb); have n1_ := am_ (Kd.R_lower ho35 (bZ_ (by repeat (first | (with_reducible first | exact HB.out | apply bA_ | apply bN_ | apply bD_ | refine bS_ ?_ GE136.out) | exact HB.out)))); have n2_ := am_ (kB_ (g := gb136) (o := .cells #[.int .i8 a0_0, .int .i8 a0_1, .slice A0_2 l0_2.length c0_2] 32 (0, 0)) (by (with_reducible repeat (first | apply kN_ | apply kD_ | apply kA_)); exact BK136.out) hb); have n3_ := am_ (bT_ (by repeat (first | (with_reducible first | exact HB.out | apply bA_ | apply bN_ | apply bD_ | refine bS_ ?_ GE136.out) | exact HB.out)) hb); clear HO140; clear BK136; clear HB; have HO140 := n0_; have HO143 := n1_; have BK136 := n2_; have HB := n3_; clear n0_ n1_ n2_ n3_; clear hb ho35))
  go_ret3
  exact ⟨_, _, by first | rfl | (simp [errW_none, errW_some] <;> rfl) | (simp [*, errW_none, errW_some] <;> rfl), by (with_reducible repeat (first | apply Kd.R_alloc | apply Kd.R_drewN | apply Kd.R_drew)); exact HO140.out, by (with_reducible repeat (first | apply Kd.R_alloc | apply Kd.R_drewN | apply Kd.R_drew)); exact HO143.out, by repeat (first | (with_reducible first | exact HB.out | apply bA_ | apply bN_ | apply bD_ | refine bS_ ?_ GE136.out) | exact HB.out)⟩
end Go.Proofs.Ytbdhmfjeamjfdaa.Q
