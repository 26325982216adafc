-- By a program of this session's: of the print's words what this claim needs. Lean checks it.
import Derived.Test.YtanpafadehnhlaaXQ0
import Derived.Test.YtanpafadehnhlaaXQ15
namespace Go.Proofs.Ytanpafadehnhlaa.Q
open Go.RowKit Go.Proofs.YtanpafadehnhlaaW.PrintWords Go.Proofs.YtanpafadehnhlaaW.PrintLast Go.Proofs.YtanpafadehnhlaaW.PrintMore
attribute [local go_sem] max2_int min2_int max_two min_two max_three min_three max_four min_four
set_option linter.unusedVariables false
set_option linter.unusedSimpArgs false
mutual
def impl_Square_cells_at_impl_Square_place_1.l0 : Nat → List (S46) → Int → Int → List (S30) → List Int → List Int → Int → Int → List (S38) → Option ((List (S46)))
 | 0, _, _, _, _, _, _, _, _, _ => none
 | k + 1, x5, x11, x12, x2000, x2001, x2002, x268000, x268001, x268002 => if x12 < x11 then (impl_Square_cells_at_impl_Square_place_1.l1 k x5 x12 x11 x12 (wrap64 (x268000)) 0 x2000 x2001 x2002 x268000 x268001 x268002) else (some x5)
def impl_Square_cells_at_impl_Square_place_1.l1 : Nat → List (S46) → Int → Int → Int → Int → Int → List (S30) → List Int → List Int → Int → Int → List (S38) → Option ((List (S46)))
 | 0, _, _, _, _, _, _, _, _, _, _, _, _ => none
 | k + 1, x5, x6, x11, x12, x17, x18, x2000, x2001, x2002, x268000, x268001, x268002 => if x18 < x17 then ((impl_Square_place_1.f k x18 x6 x2000 x2001 x2002).bind fun t271 => (if t271 = true then (if x5.length < 70368744177664 then (impl_Square_cells_at_impl_Square_place_1.l1 k (x5 ++ [(⟨IntKind.i8.wrap (x18), IntKind.i8.wrap (x6)⟩ : S46)]) x6 x11 x12 x17 (wrap64 (x18 + 1)) x2000 x2001 x2002 x268000 x268001 x268002) else (none)) else (impl_Square_cells_at_impl_Square_place_1.l1 k x5 x6 x11 x12 x17 (wrap64 (x18 + 1)) x2000 x2001 x2002 x268000 x268001 x268002))) else (impl_Square_cells_at_impl_Square_place_1.l0 k x5 x11 (wrap64 (x12 + 1)) x2000 x2001 x2002 x268000 x268001 x268002)
end
def impl_Square_cells_at_impl_Square_place_1.f (k : Nat) (a0_0 : Int) (a0_1 : Int) (l0_2 : List (S38)) (l1_0 : List (S30)) (l1_1 : List Int) (l1_2 : List Int) : Option ((List (S46))) := impl_Square_cells_at_impl_Square_place_1.l0 k (([] : List (S46))) (wrap64 (a0_1)) 0 l1_0 l1_1 l1_2 a0_0 a0_1 l0_2
theorem impl_Square_cells_at_impl_Square_place_1.mono_l : ∀ k, (∀ y0 y1 y2 y3 y4 y5 y6 y7 y8, LeO (impl_Square_cells_at_impl_Square_place_1.l0 k y0 y1 y2 y3 y4 y5 y6 y7 y8) (impl_Square_cells_at_impl_Square_place_1.l0 (k + 1) y0 y1 y2 y3 y4 y5 y6 y7 y8)) ∧ (∀ y0 y1 y2 y3 y4 y5 y6 y7 y8 y9 y10 y11, LeO (impl_Square_cells_at_impl_Square_place_1.l1 k y0 y1 y2 y3 y4 y5 y6 y7 y8 y9 y10 y11) (impl_Square_cells_at_impl_Square_place_1.l1 (k + 1) y0 y1 y2 y3 y4 y5 y6 y7 y8 y9 y10 y11))
 | 0 => ⟨fun _ _ _ _ _ _ _ _ _ r h => by simp [impl_Square_cells_at_impl_Square_place_1.l0] at h, fun _ _ _ _ _ _ _ _ _ _ _ _ r h => by simp [impl_Square_cells_at_impl_Square_place_1.l1] at h⟩
 | k + 1 => by
  obtain ⟨ih0, ih1⟩ := impl_Square_cells_at_impl_Square_place_1.mono_l k; refine ⟨?_, ?_⟩
  ·
   intro y0 y1 y2 y3 y4 y5 y6 y7 y8
   unfold impl_Square_cells_at_impl_Square_place_1.l0
   repeat' first
   | (with_reducible exact ih0 _ _ _ _ _ _ _ _ _)
   | (with_reducible exact ih1 _ _ _ _ _ _ _ _ _ _ _ _)
   | (with_reducible exact impl_Square_place_1.mono _ _ _ _ _ _)
   | (with_reducible exact LeO.refl _)
   | (with_reducible exact LeO.none _)
   | (with_reducible refine LeO.ite ?_ ?_)
   | (with_reducible refine LeO.bind ?_ (fun _ => ?_))
   | exact ih0 _ _ _ _ _ _ _ _ _
   | exact ih1 _ _ _ _ _ _ _ _ _ _ _ _
   | exact impl_Square_place_1.mono _ _ _ _ _ _
   | exact LeO.none _
   | refine LeO.ite ?_ ?_
   | refine LeO.bind ?_ (fun _ => ?_)
  ·
   intro y0 y1 y2 y3 y4 y5 y6 y7 y8 y9 y10 y11
   unfold impl_Square_cells_at_impl_Square_place_1.l1
   repeat' first
   | (with_reducible exact ih0 _ _ _ _ _ _ _ _ _)
   | (with_reducible exact ih1 _ _ _ _ _ _ _ _ _ _ _ _)
   | (with_reducible exact impl_Square_place_1.mono _ _ _ _ _ _)
   | (with_reducible exact LeO.refl _)
   | (with_reducible exact LeO.none _)
   | (with_reducible refine LeO.ite ?_ ?_)
   | (with_reducible refine LeO.bind ?_ (fun _ => ?_))
   | exact ih0 _ _ _ _ _ _ _ _ _
   | exact ih1 _ _ _ _ _ _ _ _ _ _ _ _
   | exact impl_Square_place_1.mono _ _ _ _ _ _
   | exact LeO.none _
   | refine LeO.ite ?_ ?_
   | refine LeO.bind ?_ (fun _ => ?_)
theorem impl_Square_cells_at_impl_Square_place_1.mono : ∀ a0 a1 a2 a3 a4 a5 k, LeO (impl_Square_cells_at_impl_Square_place_1.f k a0 a1 a2 a3 a4 a5) (impl_Square_cells_at_impl_Square_place_1.f (k + 1) a0 a1 a2 a3 a4 a5) := by
 intro a0 a1 a2 a3 a4 a5 k; obtain ⟨ih0, ih1⟩ := impl_Square_cells_at_impl_Square_place_1.mono_l k
 unfold impl_Square_cells_at_impl_Square_place_1.f
 repeat' first
   | (with_reducible exact ih0 _ _ _ _ _ _ _ _ _)
   | (with_reducible exact ih1 _ _ _ _ _ _ _ _ _ _ _ _)
   | (with_reducible exact impl_Square_place_1.mono _ _ _ _ _ _)
   | (with_reducible exact LeO.refl _)
   | (with_reducible exact LeO.none _)
   | (with_reducible refine LeO.ite ?_ ?_)
   | (with_reducible refine LeO.bind ?_ (fun _ => ?_))
   | exact ih0 _ _ _ _ _ _ _ _ _
   | exact ih1 _ _ _ _ _ _ _ _ _ _ _ _
   | exact impl_Square_place_1.mono _ _ _ _ _ _
   | exact LeO.none _
   | refine LeO.ite ?_ ?_
   | refine LeO.bind ?_ (fun _ => ?_)
set_option maxHeartbeats 8000000 in
set_option maxRecDepth 100000 in
theorem impl_Square_cells_at_impl_Square_place_1.calls (k : Nat) (a0_0 : Int) (a0_1 : Int) (A0_2 : Option Addr) (c0_2 : Nat) (l0_2 : List (S38)) (A1_0 : Option Addr) (c1_0 : Nat) (l1_0 : List (S30)) (A1_1 : Option Addr) (c1_1 : Nat) (l1_1 : List Int) (A1_2 : Option Addr) (c1_2 : Nat) (l1_2 : List Int) (r : List (S46)) (w : World) (hr0_2 : Kd.C k38 w A0_2 l0_2.length l0_2) (hc0_2 : l0_2.length ≤ c0_2) (hr1_0 : Kd.C k30 w A1_0 l1_0.length l1_0) (hc1_0 : l1_0.length ≤ c1_0) (hr1_1 : Kd.C (Kd.int .i64) w A1_1 l1_1.length l1_1) (hc1_1 : l1_1.length ≤ c1_1) (hr1_2 : Kd.C (Kd.int .i64) w A1_2 l1_2.length l1_2) (hc1_2 : l1_2.length ≤ c1_2) (h : impl_Square_cells_at_impl_Square_place_1.f k a0_0 a0_1 l0_2 l1_0 l1_1 l1_2 = some r) :
  Calls Try.prog 63 #[.agg #[.int .i8 a0_0, .int .i8 a0_1, .slice A0_2 l0_2.length c0_2], .func (.func 87) #[] #[.pointer A1_0, .pointer A1_1, .pointer A1_2]] w fun e w' => ∃ v0_ : Value, e = .returned (v0_) ∧ Kd.R k46 46 w' w.heap.size (fun _ => True) v0_ r ∧ Below w.heap.size w w' := by
 have hu30 := Try.underlying30; have hu46 := Try.underlying46; have HR0_2 := am_ hr0_2; have HC0_2 := am_ hc0_2; clear hr0_2 hc0_2; have HR1_0 := am_ hr1_0; have HC1_0 := am_ hc1_0; clear hr1_0 hc1_0; have HR1_1 := am_ hr1_1; have HC1_1 := am_ hc1_1; clear hr1_1 hc1_1; have HR1_2 := am_ hr1_2; have HC1_2 := am_ hc1_2; clear hr1_2 hc1_2; have HB := am_ (Below.refl w.heap.size w); have H : (impl_Square_cells_at_impl_Square_place_1.l0 k (([] : List (S46))) (wrap64 (a0_1)) 0 l1_0 l1_1 l1_2 a0_0 a0_1 l0_2) = some r := h; clear h; obtain ⟨y268, hy268⟩ : ∃ y_ : List (S46), y_ = (([] : List (S46))) := ⟨_, rfl⟩
 replace H : (impl_Square_cells_at_impl_Square_place_1.l0 k y268 (wrap64 (a0_1)) 0 l1_0 l1_1 l1_2 a0_0 a0_1 l0_2) = some r := by first | (rw [hy268]; with_reducible exact H) | (have H2_ := (Option.bind_some _ _).symm.trans H; rw [hy268]; with_reducible exact H2_) | (have H2_ := (Option.bind_some _ _).symm.trans H; with_reducible exact H2_) | with_reducible exact H | (rw [hy268]; exact H) | exact H
 have Ny268 := am_ hy268; clear hy268; have H' := am_ H; clear H
 go_enter Try.func63, Try.ntmps63
 go_wp2_with (first | ((with_reducible refine gate_dst (N := 2) rfl ?_); refine box_event ?hg (N := 2) ?hd (cs := #[.int .i8 a0_0, .int .i8 a0_1, .slice A0_2 l0_2.length c0_2]) (t := 30) ?hr ?_; (case hd => rfl); (case hg => rfl); (case hr => first | (go_simp; done) | (go_simp; rfl)); intro gb267 hg w3 hbox hb; have n0_ := am_ (bT_ (by repeat (first | (with_reducible first | exact HB.out | apply bA_ | apply bN_ | apply bD_) | exact HB.out)) hb); have n1_ := am_ (hbox); have n2_ := am_ ((by rw [hg]; exact (below_size (by repeat (first | (with_reducible first | exact HB.out | apply bA_ | apply bN_ | apply bD_) | exact HB.out))) : w.heap.size ≤ gb267)); have n3_ := n2_; clear HB; have HB := n0_; have BK267 := n1_; have GW267 := n2_; have GE267 := n3_; clear n0_ n1_ n2_ n3_; clear hb hbox hg) | ((with_reducible refine gate_dst (N := 8) rfl ?_); refine Kd.R_lit k46 _ 46 ?hg (N := 8) ?hd (xs := ([] : List (S46))) (inner := []) (ok := fun _ => True) (okp := fun _ => True) ?hr ?hp (fun _ hk => hk) trivial (Below.refl _ _) (Nat.le_refl _) (by simp) ?_; (case hd => rfl); (case hg => rfl); (case hr => first | (go_simp; done) | (go_simp; rfl)); (case hp => exact (Reps.none _ _)); intro v269 w4 ho5 hb hg_ hnew_; clear hg_ hnew_; (first | rw [← Ny268.out] at ho5 | (simp only [Int.reduceToNat] at ho5; rw [← Ny268.out] at ho5)); have n0_ := am_ (Kd.R_lower ho5 (below_size (by repeat (first | (with_reducible first | exact HB.out | apply bA_ | apply bN_ | apply bD_ | refine bS_ ?_ GE267.out) | exact HB.out)))); have n1_ := am_ (blk_below (g := gb267) (o := .cells #[.int .i8 a0_0, .int .i8 a0_1, .slice A0_2 l0_2.length c0_2] 30 (0, 0)) (by (with_reducible repeat (first | apply kN_ | apply kD_ | apply kA_)); exact BK267.out) hb); have n2_ := am_ (bT_ (by repeat (first | (with_reducible first | exact HB.out | apply bA_ | apply bN_ | apply bD_ | refine bS_ ?_ GE267.out) | exact HB.out)) hb); clear BK267; clear HB; have HO270 := n0_; have BK267 := n1_; have HB := n2_; clear n0_ n1_ n2_; clear hb ho5; have hcz6_0 : w4.cell? ⟨gb267, 0, none⟩ = some (.int .i8 a0_0) := (kC_ BK267.out 0).trans rfl; have hcz6_1 : w4.cell? ⟨gb267, 1, none⟩ = some (.int .i8 a0_1) := (kC_ BK267.out 1).trans rfl; have hcz6_2 : w4.cell? ⟨gb267, 2, none⟩ = some (.slice A0_2 l0_2.length c0_2) := (kC_ BK267.out 2).trans rfl; have hfz6_0 := kF_ BK267.out 0; have hfz6_1 := kF_ BK267.out 1; have hfz6_2 := kF_ BK267.out 2))
 go_loopg [5, 12] k (fun kq v5 v12 w' => ∃ (x5_1 : List (S46)) (x12_1 : Int), v12 = .int .i64 x12_1 ∧ Aside0 (impl_Square_cells_at_impl_Square_place_1.l0 kq x5_1 (wrap64 (a0_1)) x12_1 l1_0 l1_1 l1_2 a0_0 a0_1 l0_2 = some r) ∧ Aside0 (kq ≤ k) ∧ Aside0 (Kd.R k46 46 w' w.heap.size (fun _ => True) v5 x5_1) ∧ Aside0 (w'.heap[gb267]? = some (.cells #[.int .i8 a0_0, .int .i8 a0_1, (.slice A0_2 l0_2.length c0_2)] 30 (0, 0))) ∧ Aside0 (Below w.heap.size w w'))
 case atStart => exact ⟨(y268), (0), (by first | rfl | (simp; done) | (simp [*]; done)), H', ⟨Nat.le_refl _⟩, ⟨by (with_reducible repeat (first | apply Kd.R_alloc | apply Kd.R_drewN | apply Kd.R_drew)); exact HO270.out⟩, ⟨by (with_reducible repeat (first | apply kN_ | apply kD_ | apply kA_)); exact BK267.out⟩, ⟨by repeat (first | (with_reducible first | exact HB.out | apply bA_ | apply bN_ | apply bD_ | refine bS_ ?_ GE267.out) | exact HB.out)⟩⟩
 case round =>
  clear H'; (try clear c1); (try clear p2); (try clear p6); (try clear hcz6_0); (try clear hcz6_1); (try clear hcz6_2); (try clear hfz6_0); (try clear hfz6_1); (try clear hfz6_2); obtain ⟨x5_1, x12_1, rfl, HA, HK1, HO_5, BK267, HB⟩ := hrel
  cases gk with
  | zero => exact absurd HA.out (by simp [impl_Square_cells_at_impl_Square_place_1.l0])
  | succ k1 =>
   have H := HA.out; clear HA; simp only [impl_Square_cells_at_impl_Square_place_1.l0] at H
   by_cases c7 : x12_1 < (wrap64 (a0_1))
   ·
    rw [if_pos c7] at H; have c7b0 : decide (x12_1 < (wrap64 (a0_1))) = true := decide_eq_true c7; clear c7; have H' := am_ H; clear H; have hcz8_0 : wr.cell? ⟨gb267, 0, none⟩ = some (.int .i8 a0_0) := (kC_ BK267.out 0).trans rfl; have hcz8_1 : wr.cell? ⟨gb267, 1, none⟩ = some (.int .i8 a0_1) := (kC_ BK267.out 1).trans rfl; have hcz8_2 : wr.cell? ⟨gb267, 2, none⟩ = some (.slice A0_2 l0_2.length c0_2) := (kC_ BK267.out 2).trans rfl; have hfz8_0 := kF_ BK267.out 0; have hfz8_1 := kF_ BK267.out 1; have hfz8_2 := kF_ BK267.out 2
    go_wp2
    go_loopg [5, 18] k1 (fun kq v5 v18 w' => ∃ (x5_2 : List (S46)) (x18_2 : Int), v18 = .int .i64 x18_2 ∧ Aside0 (impl_Square_cells_at_impl_Square_place_1.l1 kq x5_2 x12_1 (wrap64 (a0_1)) x12_1 (wrap64 (a0_0)) x18_2 l1_0 l1_1 l1_2 a0_0 a0_1 l0_2 = some r) ∧ Aside0 (kq ≤ k1) ∧ Aside0 (Kd.R k46 46 w' w.heap.size (fun _ => True) v5 x5_2) ∧ Aside0 (w'.heap[gb267]? = some (.cells #[.int .i8 a0_0, .int .i8 a0_1, (.slice A0_2 l0_2.length c0_2)] 30 (0, 0))) ∧ Aside0 (Below w.heap.size w w'))
    case atStart => exact ⟨(x5_1), (0), (by first | rfl | (simp; done) | (simp [*]; done)), H', ⟨Nat.le_refl _⟩, ⟨by (with_reducible repeat (first | apply Kd.R_alloc | apply Kd.R_drewN | apply Kd.R_drew)); exact HO_5.out⟩, ⟨by (with_reducible repeat (first | apply kN_ | apply kD_ | apply kA_)); exact BK267.out⟩, ⟨by repeat (first | (with_reducible first | exact HB.out | apply bA_ | apply bN_ | apply bD_ | refine bS_ ?_ GE267.out) | exact HB.out)⟩⟩
    case round =>
     clear H'; (try clear c1); (try clear p2); (try clear p6); (try clear c7); (try clear c7b0); (try clear hcz6_0); (try clear hcz6_1); (try clear hcz6_2); (try clear hcz8_0); (try clear hcz8_1); (try clear hcz8_2); (try clear hfz6_0); (try clear hfz6_1); (try clear hfz6_2); (try clear hfz8_0); (try clear hfz8_1); (try clear hfz8_2); (try clear p2); (try clear p6); obtain ⟨x5_2, x18_2, rfl, HA, HK2, HO_5, BK267, HB⟩ := hrel
     cases gk with
     | zero => exact absurd HA.out (by simp [impl_Square_cells_at_impl_Square_place_1.l1])
     | succ k2 =>
      have H := HA.out; clear HA; simp only [impl_Square_cells_at_impl_Square_place_1.l1] at H
      by_cases c9 : x18_2 < (wrap64 (a0_0))
      ·
       rw [if_pos c9] at H; have c9b0 : decide (x18_2 < (wrap64 (a0_0))) = true := decide_eq_true c9; clear c9; replace H := Option.bind_eq_some_iff.mp H; obtain ⟨t271, A100, H⟩ := H; replace H : (if t271 = true then (if x5_2.length < 70368744177664 then (impl_Square_cells_at_impl_Square_place_1.l1 k2 (x5_2 ++ [(⟨IntKind.i8.wrap (x18_2), IntKind.i8.wrap (x12_1)⟩ : S46)]) x12_1 (wrap64 (a0_1)) x12_1 (wrap64 (a0_0)) (wrap64 (x18_2 + 1)) l1_0 l1_1 l1_2 a0_0 a0_1 l0_2) else (none)) else (impl_Square_cells_at_impl_Square_place_1.l1 k2 x5_2 x12_1 (wrap64 (a0_1)) x12_1 (wrap64 (a0_0)) (wrap64 (x18_2 + 1)) l1_0 l1_1 l1_2 a0_0 a0_1 l0_2)) = some r := H; have A10 := am_ A100; clear A100
       by_cases c11 : t271 = true
       ·
        subst c11; have H1 : (if x5_2.length < 70368744177664 then (impl_Square_cells_at_impl_Square_place_1.l1 k2 (x5_2 ++ [(⟨IntKind.i8.wrap (x18_2), IntKind.i8.wrap (x12_1)⟩ : S46)]) x12_1 (wrap64 (a0_1)) x12_1 (wrap64 (a0_0)) (wrap64 (x18_2 + 1)) l1_0 l1_1 l1_2 a0_0 a0_1 l0_2) else (none)) = some r := by rw [if_pos rfl] at H; exact H
        clear H; have H := H1; clear H1
        by_cases c12 : x5_2.length < 70368744177664
        ·
         rw [if_pos c12] at H; have LMc12 := am_ c12; clear c12; obtain ⟨y272, hy272⟩ : ∃ y_ : List (S46), y_ = (x5_2 ++ [(⟨IntKind.i8.wrap (x18_2), IntKind.i8.wrap (x12_1)⟩ : S46)]) := ⟨_, rfl⟩
         replace H : (impl_Square_cells_at_impl_Square_place_1.l1 k2 y272 x12_1 (wrap64 (a0_1)) x12_1 (wrap64 (a0_0)) (wrap64 (x18_2 + 1)) l1_0 l1_1 l1_2 a0_0 a0_1 l0_2) = some r := by first | (rw [hy272]; with_reducible exact H) | (have H2_ := (Option.bind_some _ _).symm.trans H; rw [hy272]; with_reducible exact H2_) | (have H2_ := (Option.bind_some _ _).symm.trans H; with_reducible exact H2_) | with_reducible exact H | (rw [hy272]; exact H) | exact H
         have Ny272 := am_ hy272; clear hy272; have H' := am_ H; clear H
         go_wp2_with (first | (go_at_call 87; (with_reducible refine (impl_Square_place_1.calls k2 x18_2 x12_1 _ c1_0 l1_0 _ c1_1 l1_1 _ c1_2 l1_2 true _ ?side1 ?side2 ?side3 ?side4 ?side5 ?side6 A10.out).mono ?_); (case side1 => repeat (first | exact (Kd.C_below HR1_0.out HB.out) | (with_reducible refine Kd.C_alloc ?_ _) | (with_reducible refine Kd.C_drewN ?_ _) | (with_reducible refine Kd.C_drew ?_))); (case side2 => exact HC1_0.out); (case side3 => repeat (first | exact (Kd.C_below HR1_1.out HB.out) | (with_reducible refine Kd.C_alloc ?_ _) | (with_reducible refine Kd.C_drewN ?_ _) | (with_reducible refine Kd.C_drew ?_))); (case side4 => exact HC1_1.out); (case side5 => repeat (first | exact (Kd.C_below HR1_2.out HB.out) | (with_reducible refine Kd.C_alloc ?_ _) | (with_reducible refine Kd.C_drewN ?_ _) | (with_reducible refine Kd.C_drew ?_))); (case side6 => exact HC1_2.out); rintro e w13 ⟨rfl, hb⟩; have n0_ := am_ (Kd.R_below (by (with_reducible repeat (first | apply Kd.R_alloc | apply Kd.R_drewN | apply Kd.R_drew)); exact HO_5.out) hb); have n1_ := am_ (blk_below (g := gb267) (o := .cells #[.int .i8 a0_0, .int .i8 a0_1, .slice A0_2 l0_2.length c0_2] 30 (0, 0)) (by (with_reducible repeat (first | apply kN_ | apply kD_ | apply kA_)); exact BK267.out) hb); have n2_ := am_ (bT_ (by repeat (first | (with_reducible first | exact HB.out | apply bA_ | apply bN_ | apply bD_ | refine bS_ ?_ GE267.out) | exact HB.out)) hb); clear HO_5; clear BK267; clear HB; have HO_5 := n0_; have BK267 := n1_; have HB := n2_; clear n0_ n1_ n2_; (try clear hb); (try clear hb2); (try clear hk); (try clear hi)) | ((with_reducible refine gate_builtin (b := .append) (xs := #[.tmp 25, .tmp 31]) rfl ?_); at_builtin; refine Kd.R_append k46 (w0 := w) w.heap.size rfl (.tmp 25) (.tmp 31) 53 46 (.agg #[(.int .i8 0), (.int .i8 0)]) 2 rfl Try.underlying53 info46 rfl (by decide) (by omega) u5 x5_2 (⟨IntKind.i8.wrap (x18_2), IntKind.i8.wrap (x12_1)⟩ : S46) [.int .i8 (IntKind.i8.wrap (x18_2)), .int .i8 (IntKind.i8.wrap (x12_1))] (fun _ => True) (fun _ => False) rfl rfl ?aP (fun _ hk => hk.elim) ?aF ?aO ?aB ?aS ?aL ?_; (case aP => exact k46_mkM _ _ _ (⟨IntKind.i8.wrap (x18_2), IntKind.i8.wrap (x12_1)⟩ : S46)); (case aB => exact (by repeat (first | (with_reducible first | exact HB.out | apply bA_ | apply bN_ | apply bD_ | refine bS_ ?_ GE267.out) | exact HB.out))); (case aF => exact (fun _ _ => trivial)); (case aO => exact (by (with_reducible repeat (first | apply Kd.R_alloc | apply Kd.R_drewN | apply Kd.R_drew)); exact HO_5.out)); (case aS => exact (below_size (by repeat (first | (with_reducible first | exact HB.out | apply bA_ | apply bN_ | apply bD_ | refine bS_ ?_ GE267.out) | exact HB.out)))); (case aL => have := LMc12.out; omega); intro v273 w14 ho hb hg hat; rw [← Ny272.out] at ho; have n0_ := am_ (blk_grown (g := gb267) (o := .cells #[.int .i8 a0_0, .int .i8 a0_1, .slice A0_2 l0_2.length c0_2] 30 (0, 0)) (by (with_reducible repeat (first | apply kN_ | apply kD_ | apply kA_)); exact BK267.out) hg (Kd.R_ne HO_5.out BK267.out (by decide))); have n1_ := am_ (hb); have n2_ := am_ (ho); clear BK267; clear HB; clear HO_5; have BK267 := n0_; have HB := n1_; have HO274 := n2_; clear n0_ n1_ n2_; clear ho hb hg hat))
         go_roundg k2
         case measure => have := HK1.out; have := HK2.out; omega
         case rel => exact ⟨(y272), (wrap64 (x18_2 + 1)), (by first | rfl | (simp; done) | (simp [*]; done)), H', ⟨by have := HK1.out; have := HK2.out; omega⟩, ⟨by (with_reducible repeat (first | apply Kd.R_alloc | apply Kd.R_drewN | apply Kd.R_drew)); exact HO274.out⟩, ⟨by (with_reducible repeat (first | apply kN_ | apply kD_ | apply kA_)); exact BK267.out⟩, ⟨by repeat (first | (with_reducible first | exact HB.out | apply bA_ | apply bN_ | apply bD_ | refine bS_ ?_ GE267.out) | exact HB.out)⟩⟩
        ·
         rw [if_neg c12] at H; exact absurd H (by simp)
       ·
        replace c11 := Bool.eq_false_iff.mpr c11; subst c11; have H1 : (impl_Square_cells_at_impl_Square_place_1.l1 k2 x5_2 x12_1 (wrap64 (a0_1)) x12_1 (wrap64 (a0_0)) (wrap64 (x18_2 + 1)) l1_0 l1_1 l1_2 a0_0 a0_1 l0_2) = some r := by rw [if_neg (show ¬ (false = true) by decide)] at H; exact H
        clear H; have H := H1; clear H1; have H' := am_ H; clear H
        go_wp2_with (first | (go_at_call 87; (with_reducible refine (impl_Square_place_1.calls k2 x18_2 x12_1 _ c1_0 l1_0 _ c1_1 l1_1 _ c1_2 l1_2 false _ ?side1 ?side2 ?side3 ?side4 ?side5 ?side6 A10.out).mono ?_); (case side1 => repeat (first | exact (Kd.C_below HR1_0.out HB.out) | (with_reducible refine Kd.C_alloc ?_ _) | (with_reducible refine Kd.C_drewN ?_ _) | (with_reducible refine Kd.C_drew ?_))); (case side2 => exact HC1_0.out); (case side3 => repeat (first | exact (Kd.C_below HR1_1.out HB.out) | (with_reducible refine Kd.C_alloc ?_ _) | (with_reducible refine Kd.C_drewN ?_ _) | (with_reducible refine Kd.C_drew ?_))); (case side4 => exact HC1_1.out); (case side5 => repeat (first | exact (Kd.C_below HR1_2.out HB.out) | (with_reducible refine Kd.C_alloc ?_ _) | (with_reducible refine Kd.C_drewN ?_ _) | (with_reducible refine Kd.C_drew ?_))); (case side6 => exact HC1_2.out); rintro e w15 ⟨rfl, hb⟩; have n0_ := am_ (Kd.R_below (by (with_reducible repeat (first | apply Kd.R_alloc | apply Kd.R_drewN | apply Kd.R_drew)); exact HO_5.out) hb); have n1_ := am_ (blk_below (g := gb267) (o := .cells #[.int .i8 a0_0, .int .i8 a0_1, .slice A0_2 l0_2.length c0_2] 30 (0, 0)) (by (with_reducible repeat (first | apply kN_ | apply kD_ | apply kA_)); exact BK267.out) hb); have n2_ := am_ (bT_ (by repeat (first | (with_reducible first | exact HB.out | apply bA_ | apply bN_ | apply bD_ | refine bS_ ?_ GE267.out) | exact HB.out)) hb); clear HO_5; clear BK267; clear HB; have HO_5 := n0_; have BK267 := n1_; have HB := n2_; clear n0_ n1_ n2_; (try clear hb); (try clear hb2); (try clear hk); (try clear hi)))
        go_roundg k2
        case measure => have := HK1.out; have := HK2.out; omega
        case rel => exact ⟨(x5_2), (wrap64 (x18_2 + 1)), (by first | rfl | (simp; done) | (simp [*]; done)), H', ⟨by have := HK1.out; have := HK2.out; omega⟩, ⟨by (with_reducible repeat (first | apply Kd.R_alloc | apply Kd.R_drewN | apply Kd.R_drew)); exact HO_5.out⟩, ⟨by (with_reducible repeat (first | apply kN_ | apply kD_ | apply kA_)); exact BK267.out⟩, ⟨by repeat (first | (with_reducible first | exact HB.out | apply bA_ | apply bN_ | apply bD_ | refine bS_ ?_ GE267.out) | exact HB.out)⟩⟩
      ·
       rw [if_neg c9] at H; have c9b0 : decide (x18_2 < (wrap64 (a0_0))) = false := decide_eq_false c9; clear c9; have H' := am_ H; clear H
       go_wp2
       go_roundg k2
       case measure => have := HK1.out; have := HK2.out; omega
       case rel => exact ⟨(x5_2), (wrap64 (x12_1 + 1)), (by first | rfl | (simp; done) | (simp [*]; done)), H', ⟨by have := HK1.out; have := HK2.out; omega⟩, ⟨by (with_reducible repeat (first | apply Kd.R_alloc | apply Kd.R_drewN | apply Kd.R_drew)); exact HO_5.out⟩, ⟨by (with_reducible repeat (first | apply kN_ | apply kD_ | apply kA_)); exact BK267.out⟩, ⟨by repeat (first | (with_reducible first | exact HB.out | apply bA_ | apply bN_ | apply bD_ | refine bS_ ?_ GE267.out) | exact HB.out)⟩⟩
   ·
    rw [if_neg c7] at H; have c7b0 : decide (x12_1 < (wrap64 (a0_1))) = false := decide_eq_false c7; clear c7; obtain rfl := Option.some.inj H
    go_wp2
    go_ret
    exact ⟨_, by first | rfl | (simp [errW_none, errW_some] <;> rfl) | (simp [*, errW_none, errW_some] <;> rfl), by (with_reducible repeat (first | apply Kd.R_alloc | apply Kd.R_drewN | apply Kd.R_drew)); exact HO_5.out, by repeat (first | (with_reducible first | exact HB.out | apply bA_ | apply bN_ | apply bD_ | refine bS_ ?_ GE267.out) | exact HB.out)⟩
end Go.Proofs.Ytanpafadehnhlaa.Q
