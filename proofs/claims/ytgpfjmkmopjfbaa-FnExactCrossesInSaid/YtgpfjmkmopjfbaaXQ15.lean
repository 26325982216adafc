-- Trimmed by a program of this session's.
import Derived.Test.YtgpfjmkmopjfbaaXQ0
import Derived.Test.YtgpfjmkmopjfbaaXQ11
import Derived.Test.YtgpfjmkmopjfbaaXQ14
namespace Go.Proofs.Ytgpfjmkmopjfbaa.Q
open Go.RowKit Go.Proofs.YtgpfjmkmopjfbaaW.PrintWords Go.Proofs.YtgpfjmkmopjfbaaW.PrintLast Go.Proofs.YtgpfjmkmopjfbaaW.PrintMore
attribute [local go_sem] max2_int min2_int max_two min_two max_three min_three max_four min_four
set_option linter.unusedVariables false
set_option linter.unusedSimpArgs false
mutual
def impl_Square_cells_at_impl_CrossesIn_1.l0 : Nat → List (S66) → Int → Int → List (S29) → Int → Int → List (S31) → Option ((List (S66)))
 | 0, _, _, _, _, _, _, _ => none
 | k + 1, x5, x11, x12, x2000, x278000, x278001, x278002 => if x12 < x11 then (impl_Square_cells_at_impl_CrossesIn_1.l1 k x5 x12 x11 x12 (wrap64 (x278000)) 0 x2000 x278000 x278001 x278002) else (some x5)
def impl_Square_cells_at_impl_CrossesIn_1.l1 : Nat → List (S66) → Int → Int → Int → Int → Int → List (S29) → Int → Int → List (S31) → Option ((List (S66)))
 | 0, _, _, _, _, _, _, _, _, _, _ => none
 | k + 1, x5, x6, x11, x12, x17, x18, x2000, x278000, x278001, x278002 => if x18 < x17 then ((impl_CrossesIn_1.f k x18 x6 x2000).bind fun t281 => (if t281 = true then (if x5.length < 70368744177664 then (impl_Square_cells_at_impl_CrossesIn_1.l1 k (x5 ++ [(⟨IntKind.i8.wrap (x18), IntKind.i8.wrap (x6)⟩ : S66)]) x6 x11 x12 x17 (wrap64 (x18 + 1)) x2000 x278000 x278001 x278002) else (none)) else (impl_Square_cells_at_impl_CrossesIn_1.l1 k x5 x6 x11 x12 x17 (wrap64 (x18 + 1)) x2000 x278000 x278001 x278002))) else (impl_Square_cells_at_impl_CrossesIn_1.l0 k x5 x11 (wrap64 (x12 + 1)) x2000 x278000 x278001 x278002)
end
def impl_Square_cells_at_impl_CrossesIn_1.f (k : Nat) (a0_0 : Int) (a0_1 : Int) (l0_2 : List (S31)) (l1_0 : List (S29)) : Option ((List (S66))) := impl_Square_cells_at_impl_CrossesIn_1.l0 k (([] : List (S66))) (wrap64 (a0_1)) 0 l1_0 a0_0 a0_1 l0_2
theorem impl_Square_cells_at_impl_CrossesIn_1.mono_l : ∀ k, (∀ y0 y1 y2 y3 y4 y5 y6, LeO (impl_Square_cells_at_impl_CrossesIn_1.l0 k y0 y1 y2 y3 y4 y5 y6) (impl_Square_cells_at_impl_CrossesIn_1.l0 (k + 1) y0 y1 y2 y3 y4 y5 y6)) ∧ (∀ y0 y1 y2 y3 y4 y5 y6 y7 y8 y9, LeO (impl_Square_cells_at_impl_CrossesIn_1.l1 k y0 y1 y2 y3 y4 y5 y6 y7 y8 y9) (impl_Square_cells_at_impl_CrossesIn_1.l1 (k + 1) y0 y1 y2 y3 y4 y5 y6 y7 y8 y9))
 | 0 => ⟨fun _ _ _ _ _ _ _ r h => by simp [impl_Square_cells_at_impl_CrossesIn_1.l0] at h, fun _ _ _ _ _ _ _ _ _ _ r h => by simp [impl_Square_cells_at_impl_CrossesIn_1.l1] at h⟩
 | k + 1 => by
  obtain ⟨ih0, ih1⟩ := impl_Square_cells_at_impl_CrossesIn_1.mono_l k; refine ⟨?_, ?_⟩
  ·
   intro y0 y1 y2 y3 y4 y5 y6
   unfold impl_Square_cells_at_impl_CrossesIn_1.l0
   repeat' first
   | (with_reducible exact ih0 _ _ _ _ _ _ _)
   | (with_reducible exact ih1 _ _ _ _ _ _ _ _ _ _)
   | (with_reducible exact impl_CrossesIn_1.mono _ _ _ _)
   | (with_reducible exact LeO.refl _)
   | (with_reducible exact LeO.none _)
   | (with_reducible refine LeO.ite ?_ ?_)
   | (with_reducible refine LeO.bind ?_ (fun _ => ?_))
   | exact ih0 _ _ _ _ _ _ _
   | exact ih1 _ _ _ _ _ _ _ _ _ _
   | exact impl_CrossesIn_1.mono _ _ _ _
   | exact LeO.none _
   | refine LeO.ite ?_ ?_
   | refine LeO.bind ?_ (fun _ => ?_)
  ·
   intro y0 y1 y2 y3 y4 y5 y6 y7 y8 y9
   unfold impl_Square_cells_at_impl_CrossesIn_1.l1
   repeat' first
   | (with_reducible exact ih0 _ _ _ _ _ _ _)
   | (with_reducible exact ih1 _ _ _ _ _ _ _ _ _ _)
   | (with_reducible exact impl_CrossesIn_1.mono _ _ _ _)
   | (with_reducible exact LeO.refl _)
   | (with_reducible exact LeO.none _)
   | (with_reducible refine LeO.ite ?_ ?_)
   | (with_reducible refine LeO.bind ?_ (fun _ => ?_))
   | exact ih0 _ _ _ _ _ _ _
   | exact ih1 _ _ _ _ _ _ _ _ _ _
   | exact impl_CrossesIn_1.mono _ _ _ _
   | exact LeO.none _
   | refine LeO.ite ?_ ?_
   | refine LeO.bind ?_ (fun _ => ?_)
theorem impl_Square_cells_at_impl_CrossesIn_1.mono : ∀ a0 a1 a2 a3 k, LeO (impl_Square_cells_at_impl_CrossesIn_1.f k a0 a1 a2 a3) (impl_Square_cells_at_impl_CrossesIn_1.f (k + 1) a0 a1 a2 a3) := by
 intro a0 a1 a2 a3 k; obtain ⟨ih0, ih1⟩ := impl_Square_cells_at_impl_CrossesIn_1.mono_l k
 unfold impl_Square_cells_at_impl_CrossesIn_1.f
 repeat' first
   | (with_reducible exact ih0 _ _ _ _ _ _ _)
   | (with_reducible exact ih1 _ _ _ _ _ _ _ _ _ _)
   | (with_reducible exact impl_CrossesIn_1.mono _ _ _ _)
   | (with_reducible exact LeO.refl _)
   | (with_reducible exact LeO.none _)
   | (with_reducible refine LeO.ite ?_ ?_)
   | (with_reducible refine LeO.bind ?_ (fun _ => ?_))
   | exact ih0 _ _ _ _ _ _ _
   | exact ih1 _ _ _ _ _ _ _ _ _ _
   | exact impl_CrossesIn_1.mono _ _ _ _
   | exact LeO.none _
   | refine LeO.ite ?_ ?_
   | refine LeO.bind ?_ (fun _ => ?_)
set_option maxHeartbeats 8000000 in
set_option maxRecDepth 100000 in
theorem impl_Square_cells_at_impl_CrossesIn_1.calls (k : Nat) (a0_0 : Int) (a0_1 : Int) (A0_2 : Option Addr) (c0_2 : Nat) (l0_2 : List (S31)) (A1_0 : Option Addr) (c1_0 : Nat) (l1_0 : List (S29)) (r : List (S66)) (w : World) (hr0_2 : Kd.C k31 w A0_2 l0_2.length l0_2) (hc0_2 : l0_2.length ≤ c0_2) (hr1_0 : Kd.C k29 w A1_0 l1_0.length l1_0) (hc1_0 : l1_0.length ≤ c1_0) (h : impl_Square_cells_at_impl_CrossesIn_1.f k a0_0 a0_1 l0_2 l1_0 = some r) :
  Calls Try.prog 34 #[.agg #[.int .i8 a0_0, .int .i8 a0_1, .slice A0_2 l0_2.length c0_2], .func (.func 35) #[] #[.pointer A1_0]] w fun e w' => ∃ v0_ : Value, e = .returned (v0_) ∧ Kd.R k66 66 w' w.heap.size (fun _ => True) v0_ r ∧ Below w.heap.size w w' := by
 have hu29 := Try.underlying29; have hu66 := Try.underlying66; have HR0_2 := am_ hr0_2; have HC0_2 := am_ hc0_2; clear hr0_2 hc0_2; have HR1_0 := am_ hr1_0; have HC1_0 := am_ hc1_0; clear hr1_0 hc1_0; have HB := am_ (Below.refl w.heap.size w); have H : (impl_Square_cells_at_impl_CrossesIn_1.l0 k (([] : List (S66))) (wrap64 (a0_1)) 0 l1_0 a0_0 a0_1 l0_2) = some r := h; clear h; obtain ⟨y278, hy278⟩ : ∃ y_ : List (S66), y_ = (([] : List (S66))) := ⟨_, rfl⟩
 replace H : (impl_Square_cells_at_impl_CrossesIn_1.l0 k y278 (wrap64 (a0_1)) 0 l1_0 a0_0 a0_1 l0_2) = some r := by first | (rw [hy278]; with_reducible exact H) | (have H2_ := (Option.bind_some _ _).symm.trans H; rw [hy278]; with_reducible exact H2_) | (have H2_ := (Option.bind_some _ _).symm.trans H; with_reducible exact H2_) | with_reducible exact H | (rw [hy278]; exact H) | exact H
 have Ny278 := am_ hy278; clear hy278; have H' := am_ H; clear H
 go_enter Try.func34, Try.ntmps34
 go_wp2_with (first | ((with_reducible refine gate_dst (N := 2) rfl ?_); refine box_event ?hg (N := 2) ?hd (cs := #[.int .i8 a0_0, .int .i8 a0_1, .slice A0_2 l0_2.length c0_2]) (t := 29) ?hr ?_; (case hd => rfl); (case hg => rfl); (case hr => first | (go_simp; done) | (go_simp; rfl)); intro gb277 hg w3 hbox hb; have n0_ := am_ (bT_ (by repeat (first | (with_reducible first | exact HB.out | apply bA_ | apply bN_ | apply bD_) | exact HB.out)) hb); have n1_ := am_ (hbox); have n2_ := am_ ((by rw [hg]; exact (bZ_ (by repeat (first | (with_reducible first | exact HB.out | apply bA_ | apply bN_ | apply bD_) | exact HB.out))) : w.heap.size ≤ gb277)); have n3_ := n2_; clear HB; have HB := n0_; have BK277 := n1_; have GW277 := n2_; have GE277 := n3_; clear n0_ n1_ n2_ n3_; clear hb hbox hg) | ((with_reducible refine gate_dst (N := 8) rfl ?_); refine Kd.R_lit k66 _ 66 ?hg (N := 8) ?hd (xs := ([] : List (S66))) (inner := []) (ok := fun _ => True) (okp := fun _ => True) ?hr ?hp (fun _ hk => hk) trivial (Below.refl _ _) (Nat.le_refl _) (by simp) ?_; (case hd => rfl); (case hg => rfl); (case hr => first | (go_simp; done) | (go_simp; rfl)); (case hp => exact (Reps.none _ _)); intro v279 w4 ho5 hb hg_ hnew_; clear hg_ hnew_; (first | rw [← Ny278.out] at ho5 | (simp only [Int.reduceToNat] at ho5; rw [← Ny278.out] at ho5)); have n0_ := am_ (Kd.R_lower ho5 (bZ_ (by repeat (first | (with_reducible first | exact HB.out | apply bA_ | apply bN_ | apply bD_ | refine bS_ ?_ GE277.out) | exact HB.out)))); have n1_ := am_ (kB_ (g := gb277) (o := .cells #[.int .i8 a0_0, .int .i8 a0_1, .slice A0_2 l0_2.length c0_2] 29 (0, 0)) (by (with_reducible repeat (first | apply kN_ | apply kD_ | apply kA_)); exact BK277.out) hb); have n2_ := am_ (bT_ (by repeat (first | (with_reducible first | exact HB.out | apply bA_ | apply bN_ | apply bD_ | refine bS_ ?_ GE277.out) | exact HB.out)) hb); clear BK277; clear HB; have HO280 := n0_; have BK277 := n1_; have HB := n2_; clear n0_ n1_ n2_; clear hb ho5; have hcz6_0 : w4.cell? ⟨gb277, 0, none⟩ = some (.int .i8 a0_0) := (kC_ BK277.out 0).trans rfl; have hcz6_1 : w4.cell? ⟨gb277, 1, none⟩ = some (.int .i8 a0_1) := (kC_ BK277.out 1).trans rfl; have hcz6_2 : w4.cell? ⟨gb277, 2, none⟩ = some (.slice A0_2 l0_2.length c0_2) := (kC_ BK277.out 2).trans rfl; have hfz6_0 := kF_ BK277.out 0; have hfz6_1 := kF_ BK277.out 1; have hfz6_2 := kF_ BK277.out 2))
 go_loopg [5, 12] k (fun kq v5 v12 w' => ∃ (x5_1 : List (S66)) (x12_1 : Int), v12 = .int .i64 x12_1 ∧ Aside0 (impl_Square_cells_at_impl_CrossesIn_1.l0 kq x5_1 (wrap64 (a0_1)) x12_1 l1_0 a0_0 a0_1 l0_2 = some r) ∧ Aside0 (kq ≤ k) ∧ Aside0 (Kd.R k66 66 w' w.heap.size (fun _ => True) v5 x5_1) ∧ Aside0 (w'.heap[gb277]? = some (.cells #[.int .i8 a0_0, .int .i8 a0_1, (.slice A0_2 l0_2.length c0_2)] 29 (0, 0))) ∧ Aside0 (Below w.heap.size w w'))
 case atStart => exact ⟨(y278), (0), (by first | rfl | (simp; done) | (simp [*]; done)), H', ⟨Nat.le_refl _⟩, ⟨by (with_reducible repeat (first | apply Kd.R_alloc | apply Kd.R_drewN | apply Kd.R_drew)); exact HO280.out⟩, ⟨by (with_reducible repeat (first | apply kN_ | apply kD_ | apply kA_)); exact BK277.out⟩, ⟨by repeat (first | (with_reducible first | exact HB.out | apply bA_ | apply bN_ | apply bD_ | refine bS_ ?_ GE277.out) | exact HB.out)⟩⟩
 case round =>
  clear H'; (try clear c1); (try clear p2); (try clear p6); (try clear hcz6_0); (try clear hcz6_1); (try clear hcz6_2); (try clear hfz6_0); (try clear hfz6_1); (try clear hfz6_2); obtain ⟨x5_1, x12_1, rfl, HA, HK1, HO_5, BK277, HB⟩ := hrel
  cases gk with
  | zero => exact absurd HA.out (by simp [impl_Square_cells_at_impl_CrossesIn_1.l0])
  | succ k1 =>
   have H := HA.out; clear HA; simp only [impl_Square_cells_at_impl_CrossesIn_1.l0] at H
   by_cases c7 : x12_1 < (wrap64 (a0_1))
   ·
    rw [if_pos c7] at H; have c7b0 : decide (x12_1 < (wrap64 (a0_1))) = true := decide_eq_true c7; clear c7; have H' := am_ H; clear H; have hcz8_0 : wr.cell? ⟨gb277, 0, none⟩ = some (.int .i8 a0_0) := (kC_ BK277.out 0).trans rfl; have hcz8_1 : wr.cell? ⟨gb277, 1, none⟩ = some (.int .i8 a0_1) := (kC_ BK277.out 1).trans rfl; have hcz8_2 : wr.cell? ⟨gb277, 2, none⟩ = some (.slice A0_2 l0_2.length c0_2) := (kC_ BK277.out 2).trans rfl; have hfz8_0 := kF_ BK277.out 0; have hfz8_1 := kF_ BK277.out 1; have hfz8_2 := kF_ BK277.out 2
    go_wp2
    go_loopg [5, 18] k1 (fun kq v5 v18 w' => ∃ (x5_2 : List (S66)) (x18_2 : Int), v18 = .int .i64 x18_2 ∧ Aside0 (impl_Square_cells_at_impl_CrossesIn_1.l1 kq x5_2 x12_1 (wrap64 (a0_1)) x12_1 (wrap64 (a0_0)) x18_2 l1_0 a0_0 a0_1 l0_2 = some r) ∧ Aside0 (kq ≤ k1) ∧ Aside0 (Kd.R k66 66 w' w.heap.size (fun _ => True) v5 x5_2) ∧ Aside0 (w'.heap[gb277]? = some (.cells #[.int .i8 a0_0, .int .i8 a0_1, (.slice A0_2 l0_2.length c0_2)] 29 (0, 0))) ∧ Aside0 (Below w.heap.size w w'))
    case atStart => exact ⟨(x5_1), (0), (by first | rfl | (simp; done) | (simp [*]; done)), H', ⟨Nat.le_refl _⟩, ⟨by (with_reducible repeat (first | apply Kd.R_alloc | apply Kd.R_drewN | apply Kd.R_drew)); exact HO_5.out⟩, ⟨by (with_reducible repeat (first | apply kN_ | apply kD_ | apply kA_)); exact BK277.out⟩, ⟨by repeat (first | (with_reducible first | exact HB.out | apply bA_ | apply bN_ | apply bD_ | refine bS_ ?_ GE277.out) | exact HB.out)⟩⟩
    case round =>
     clear H'; (try clear c1); (try clear p2); (try clear p6); (try clear c7); (try clear c7b0); (try clear hcz6_0); (try clear hcz6_1); (try clear hcz6_2); (try clear hcz8_0); (try clear hcz8_1); (try clear hcz8_2); (try clear hfz6_0); (try clear hfz6_1); (try clear hfz6_2); (try clear hfz8_0); (try clear hfz8_1); (try clear hfz8_2); (try clear p2); (try clear p6); obtain ⟨x5_2, x18_2, rfl, HA, HK2, HO_5, BK277, HB⟩ := hrel
     cases gk with
     | zero => exact absurd HA.out (by simp [impl_Square_cells_at_impl_CrossesIn_1.l1])
     | succ k2 =>
      have H := HA.out; clear HA; simp only [impl_Square_cells_at_impl_CrossesIn_1.l1] at H
      by_cases c9 : x18_2 < (wrap64 (a0_0))
      ·
       rw [if_pos c9] at H; have c9b0 : decide (x18_2 < (wrap64 (a0_0))) = true := decide_eq_true c9; clear c9; replace H := Option.bind_eq_some_iff.mp H; obtain ⟨t281, A100, H⟩ := H; replace H : (if t281 = true then (if x5_2.length < 70368744177664 then (impl_Square_cells_at_impl_CrossesIn_1.l1 k2 (x5_2 ++ [(⟨IntKind.i8.wrap (x18_2), IntKind.i8.wrap (x12_1)⟩ : S66)]) x12_1 (wrap64 (a0_1)) x12_1 (wrap64 (a0_0)) (wrap64 (x18_2 + 1)) l1_0 a0_0 a0_1 l0_2) else (none)) else (impl_Square_cells_at_impl_CrossesIn_1.l1 k2 x5_2 x12_1 (wrap64 (a0_1)) x12_1 (wrap64 (a0_0)) (wrap64 (x18_2 + 1)) l1_0 a0_0 a0_1 l0_2)) = some r := H; have A10 := am_ A100; clear A100
       by_cases c11 : t281 = true
       ·
        subst c11; have H1 : (if x5_2.length < 70368744177664 then (impl_Square_cells_at_impl_CrossesIn_1.l1 k2 (x5_2 ++ [(⟨IntKind.i8.wrap (x18_2), IntKind.i8.wrap (x12_1)⟩ : S66)]) x12_1 (wrap64 (a0_1)) x12_1 (wrap64 (a0_0)) (wrap64 (x18_2 + 1)) l1_0 a0_0 a0_1 l0_2) else (none)) = some r := by rw [if_pos rfl] at H; exact H
        clear H; have H := H1; clear H1
        by_cases c12 : x5_2.length < 70368744177664
        ·
         rw [if_pos c12] at H; have LMc12 := am_ c12; clear c12; obtain ⟨y282, hy282⟩ : ∃ y_ : List (S66), y_ = (x5_2 ++ [(⟨IntKind.i8.wrap (x18_2), IntKind.i8.wrap (x12_1)⟩ : S66)]) := ⟨_, rfl⟩
         replace H : (impl_Square_cells_at_impl_CrossesIn_1.l1 k2 y282 x12_1 (wrap64 (a0_1)) x12_1 (wrap64 (a0_0)) (wrap64 (x18_2 + 1)) l1_0 a0_0 a0_1 l0_2) = some r := by first | (rw [hy282]; with_reducible exact H) | (have H2_ := (Option.bind_some _ _).symm.trans H; rw [hy282]; with_reducible exact H2_) | (have H2_ := (Option.bind_some _ _).symm.trans H; with_reducible exact H2_) | with_reducible exact H | (rw [hy282]; exact H) | exact H
         have Ny282 := am_ hy282; clear hy282; have H' := am_ H; clear H
         go_wp2_with (first | (go_at_call 35; (with_reducible refine (impl_CrossesIn_1.calls k2 x18_2 x12_1 _ c1_0 l1_0 true _ ?side1 ?side2 A10.out).mono ?_); (case side1 => repeat (first | exact (cB_ HR1_0.out HB.out) | (with_reducible refine Kd.C_alloc ?_ _) | (with_reducible refine Kd.C_drewN ?_ _) | (with_reducible refine Kd.C_drew ?_))); (case side2 => exact HC1_0.out); rintro e w13 ⟨rfl, hb⟩; have n0_ := am_ (Kd.R_below (by (with_reducible repeat (first | apply Kd.R_alloc | apply Kd.R_drewN | apply Kd.R_drew)); exact HO_5.out) hb); have n1_ := am_ (kB_ (g := gb277) (o := .cells #[.int .i8 a0_0, .int .i8 a0_1, .slice A0_2 l0_2.length c0_2] 29 (0, 0)) (by (with_reducible repeat (first | apply kN_ | apply kD_ | apply kA_)); exact BK277.out) hb); have n2_ := am_ (bT_ (by repeat (first | (with_reducible first | exact HB.out | apply bA_ | apply bN_ | apply bD_ | refine bS_ ?_ GE277.out) | exact HB.out)) hb); clear HO_5; clear BK277; clear HB; have HO_5 := n0_; have BK277 := n1_; have HB := n2_; clear n0_ n1_ n2_; (try clear hb); (try clear hb2); (try clear hk); (try clear hi)) | ((with_reducible refine gate_builtin (b := .append) (xs := #[.tmp 25, .tmp 31]) rfl ?_); at_builtin; refine Kd.R_append k66 (w0 := w) w.heap.size rfl (.tmp 25) (.tmp 31) 39 66 (.agg #[(.int .i8 0), (.int .i8 0)]) 2 rfl Try.underlying39 info66 rfl (by decide) (by omega) u5 x5_2 (⟨IntKind.i8.wrap (x18_2), IntKind.i8.wrap (x12_1)⟩ : S66) [.int .i8 (IntKind.i8.wrap (x18_2)), .int .i8 (IntKind.i8.wrap (x12_1))] (fun _ => True) (fun _ => False) rfl rfl ?aP (fun _ hk => hk.elim) ?aF ?aO ?aB ?aS ?aL ?_; (case aP => exact k66_mkM _ _ _ (⟨IntKind.i8.wrap (x18_2), IntKind.i8.wrap (x12_1)⟩ : S66)); (case aB => exact (by repeat (first | (with_reducible first | exact HB.out | apply bA_ | apply bN_ | apply bD_ | refine bS_ ?_ GE277.out) | exact HB.out))); (case aF => exact (fun _ _ => trivial)); (case aO => exact (by (with_reducible repeat (first | apply Kd.R_alloc | apply Kd.R_drewN | apply Kd.R_drew)); exact HO_5.out)); (case aS => exact (bZ_ (by repeat (first | (with_reducible first | exact HB.out | apply bA_ | apply bN_ | apply bD_ | refine bS_ ?_ GE277.out) | exact HB.out)))); (case aL => have := LMc12.out; omega); intro v283 w14 ho hb hg hat; rw [← Ny282.out] at ho; have n0_ := am_ (blk_grown (g := gb277) (o := .cells #[.int .i8 a0_0, .int .i8 a0_1, .slice A0_2 l0_2.length c0_2] 29 (0, 0)) (by (with_reducible repeat (first | apply kN_ | apply kD_ | apply kA_)); exact BK277.out) hg (Kd.R_ne HO_5.out BK277.out (by decide))); have n1_ := am_ (hb); have n2_ := am_ (ho); clear BK277; clear HB; clear HO_5; have BK277 := n0_; have HB := n1_; have HO284 := n2_; clear n0_ n1_ n2_; clear ho hb hg hat))
         go_roundg k2
         case measure => have := HK1.out; have := HK2.out; omega
         case rel => exact ⟨(y282), (wrap64 (x18_2 + 1)), (by first | rfl | (simp; done) | (simp [*]; done)), H', ⟨by have := HK1.out; have := HK2.out; omega⟩, ⟨by (with_reducible repeat (first | apply Kd.R_alloc | apply Kd.R_drewN | apply Kd.R_drew)); exact HO284.out⟩, ⟨by (with_reducible repeat (first | apply kN_ | apply kD_ | apply kA_)); exact BK277.out⟩, ⟨by repeat (first | (with_reducible first | exact HB.out | apply bA_ | apply bN_ | apply bD_ | refine bS_ ?_ GE277.out) | exact HB.out)⟩⟩
        ·
         rw [if_neg c12] at H; exact absurd H (by simp)
       ·
        replace c11 := Bool.eq_false_iff.mpr c11; subst c11; have H1 : (impl_Square_cells_at_impl_CrossesIn_1.l1 k2 x5_2 x12_1 (wrap64 (a0_1)) x12_1 (wrap64 (a0_0)) (wrap64 (x18_2 + 1)) l1_0 a0_0 a0_1 l0_2) = some r := by rw [if_neg (show ¬ (false = true) by decide)] at H; exact H
        clear H; have H := H1; clear H1; have H' := am_ H; clear H
        go_wp2_with (first | (go_at_call 35; (with_reducible refine (impl_CrossesIn_1.calls k2 x18_2 x12_1 _ c1_0 l1_0 false _ ?side1 ?side2 A10.out).mono ?_); (case side1 => repeat (first | exact (cB_ HR1_0.out HB.out) | (with_reducible refine Kd.C_alloc ?_ _) | (with_reducible refine Kd.C_drewN ?_ _) | (with_reducible refine Kd.C_drew ?_))); (case side2 => exact HC1_0.out); rintro e w15 ⟨rfl, hb⟩; have n0_ := am_ (Kd.R_below (by (with_reducible repeat (first | apply Kd.R_alloc | apply Kd.R_drewN | apply Kd.R_drew)); exact HO_5.out) hb); have n1_ := am_ (kB_ (g := gb277) (o := .cells #[.int .i8 a0_0, .int .i8 a0_1, .slice A0_2 l0_2.length c0_2] 29 (0, 0)) (by (with_reducible repeat (first | apply kN_ | apply kD_ | apply kA_)); exact BK277.out) hb); have n2_ := am_ (bT_ (by repeat (first | (with_reducible first | exact HB.out | apply bA_ | apply bN_ | apply bD_ | refine bS_ ?_ GE277.out) | exact HB.out)) hb); clear HO_5; clear BK277; clear HB; have HO_5 := n0_; have BK277 := n1_; have HB := n2_; clear n0_ n1_ n2_; (try clear hb); (try clear hb2); (try clear hk); (try clear hi)))
        go_roundg k2
        case measure => have := HK1.out; have := HK2.out; omega
        case rel => exact ⟨(x5_2), (wrap64 (x18_2 + 1)), (by first | rfl | (simp; done) | (simp [*]; done)), H', ⟨by have := HK1.out; have := HK2.out; omega⟩, ⟨by (with_reducible repeat (first | apply Kd.R_alloc | apply Kd.R_drewN | apply Kd.R_drew)); exact HO_5.out⟩, ⟨by (with_reducible repeat (first | apply kN_ | apply kD_ | apply kA_)); exact BK277.out⟩, ⟨by repeat (first | (with_reducible first | exact HB.out | apply bA_ | apply bN_ | apply bD_ | refine bS_ ?_ GE277.out) | exact HB.out)⟩⟩
      ·
       rw [if_neg c9] at H; have c9b0 : decide (x18_2 < (wrap64 (a0_0))) = false := decide_eq_false c9; clear c9; have H' := am_ H; clear H
       go_wp2
       go_roundg k2
       case measure => have := HK1.out; have := HK2.out; omega
       case rel => exact ⟨(x5_2), (wrap64 (x12_1 + 1)), (by first | rfl | (simp; done) | (simp [*]; done)), H', ⟨by have := HK1.out; have := HK2.out; omega⟩, ⟨by (with_reducible repeat (first | apply Kd.R_alloc | apply Kd.R_drewN | apply Kd.R_drew)); exact HO_5.out⟩, ⟨by (with_reducible repeat (first | apply kN_ | apply kD_ | apply kA_)); exact BK277.out⟩, ⟨by repeat (first | (with_reducible first | exact HB.out | apply bA_ | apply bN_ | apply bD_ | refine bS_ ?_ GE277.out) | exact HB.out)⟩⟩
   ·
    rw [if_neg c7] at H; have c7b0 : decide (x12_1 < (wrap64 (a0_1))) = false := decide_eq_false c7; clear c7; obtain rfl := Option.some.inj H
    go_wp2
    go_ret
    exact ⟨_, by first | rfl | (simp [errW_none, errW_some] <;> rfl) | (simp [*, errW_none, errW_some] <;> rfl), by (with_reducible repeat (first | apply Kd.R_alloc | apply Kd.R_drewN | apply Kd.R_drew)); exact HO_5.out, by repeat (first | (with_reducible first | exact HB.out | apply bA_ | apply bN_ | apply bD_ | refine bS_ ?_ GE277.out) | exact HB.out)⟩
def impl_CrossesIn.f (k : Nat) (a0_0 : Int) (a0_1 : Int) (l0_2 : List (S31)) : Option ((List (S66)) × Int) := (impl_ValidSquare.f k a0_0 a0_1 l0_2).bind fun t286 => (if t286 = true then ((impl_Square_cells_at_impl_CrossesIn_1.f k a0_0 a0_1 l0_2 [(⟨a0_0, a0_1, l0_2⟩ : S29)]).bind fun t287 => (some (t287, 0))) else (some (([] : List (S66)), 1)))
theorem impl_CrossesIn.mono : ∀ a0 a1 a2 k, LeO (impl_CrossesIn.f k a0 a1 a2) (impl_CrossesIn.f (k + 1) a0 a1 a2) := by
 intro a0 a1 a2 k
 unfold impl_CrossesIn.f
 repeat' first
   | (with_reducible exact impl_Square_cells_at_impl_CrossesIn_1.mono _ _ _ _ _)
   | (with_reducible exact impl_ValidSquare.mono _ _ _ _)
   | (with_reducible exact LeO.refl _)
   | (with_reducible exact LeO.none _)
   | (with_reducible refine LeO.ite ?_ ?_)
   | (with_reducible refine LeO.bind ?_ (fun _ => ?_))
   | exact impl_Square_cells_at_impl_CrossesIn_1.mono _ _ _ _ _
   | exact impl_ValidSquare.mono _ _ _ _
   | exact LeO.none _
   | refine LeO.ite ?_ ?_
   | refine LeO.bind ?_ (fun _ => ?_)
set_option maxHeartbeats 8000000 in
set_option maxRecDepth 100000 in
theorem impl_CrossesIn.calls (k : Nat) (a0_0 : Int) (a0_1 : Int) (A0_2 : Option Addr) (c0_2 : Nat) (l0_2 : List (S31)) (r1 : List (S66)) (r2 : Int) (w : World) (hr0_2 : Kd.C k31 w A0_2 l0_2.length l0_2) (hc0_2 : l0_2.length ≤ c0_2) (h : impl_CrossesIn.f k a0_0 a0_1 l0_2 = some (r1, r2)) :
  Calls Try.prog 14 #[.agg #[.int .i8 a0_0, .int .i8 a0_1, .slice A0_2 l0_2.length c0_2]] w fun e w' => ∃ v0_ : Value, e = .returned (.tuple #[v0_, .int .i64 r2]) ∧ Kd.R k66 66 w' w.heap.size (fun _ => True) v0_ r1 ∧ Below w.heap.size w w' := by
 have hu29 := Try.underlying29; have HR0_2 := am_ hr0_2; have HC0_2 := am_ hc0_2; clear hr0_2 hc0_2; have HB := am_ (Below.refl w.heap.size w); have H : ((impl_ValidSquare.f k a0_0 a0_1 l0_2).bind fun t286 => (if t286 = true then ((impl_Square_cells_at_impl_CrossesIn_1.f k a0_0 a0_1 l0_2 [(⟨a0_0, a0_1, l0_2⟩ : S29)]).bind fun t287 => (some (t287, 0))) else (some (([] : List (S66)), 1)))) = some (r1, r2) := h; clear h; replace H := Option.bind_eq_some_iff.mp H; obtain ⟨t286, A20, H⟩ := H; replace H : (if t286 = true then ((impl_Square_cells_at_impl_CrossesIn_1.f k a0_0 a0_1 l0_2 [(⟨a0_0, a0_1, l0_2⟩ : S29)]).bind fun t287 => (some (t287, 0))) else (some (([] : List (S66)), 1))) = some (r1, r2) := H; have A2 := am_ A20; clear A20
 by_cases c3 : t286 = true
 ·
  subst c3; have H1 : ((impl_Square_cells_at_impl_CrossesIn_1.f k a0_0 a0_1 l0_2 [(⟨a0_0, a0_1, l0_2⟩ : S29)]).bind fun t287 => (some (t287, 0))) = some (r1, r2) := by rw [if_pos rfl] at H; exact H
  clear H; have H := H1; clear H1; replace H := Option.bind_eq_some_iff.mp H; obtain ⟨t287, A40, H⟩ := H; replace H : (some (t287, 0)) = some (r1, r2) := H; have A4 := am_ A40; clear A40; simp only [Option.some.injEq, Prod.mk.injEq] at H; obtain ⟨rfl, rfl⟩ := H
  go_enter Try.func14, Try.ntmps14
  go_wp2_with (first | ((with_reducible refine gate_dst (N := 1) rfl ?_); refine box_event ?hg (N := 1) ?hd (cs := #[.int .i8 a0_0, .int .i8 a0_1, .slice A0_2 l0_2.length c0_2]) (t := 29) ?hr ?_; (case hd => rfl); (case hg => rfl); (case hr => first | (go_simp; done) | (go_simp; rfl)); intro gb285 hg w5 hbox hb; have n0_ := am_ (bT_ (by repeat (first | (with_reducible first | exact HB.out | apply bA_ | apply bN_ | apply bD_) | exact HB.out)) hb); have n1_ := am_ (hbox); have n2_ := am_ ((by rw [hg]; exact (bZ_ (by repeat (first | (with_reducible first | exact HB.out | apply bA_ | apply bN_ | apply bD_) | exact HB.out))) : w.heap.size ≤ gb285)); have n3_ := n2_; clear HB; have HB := n0_; have BK285 := n1_; have GW285 := n2_; have GE285 := n3_; clear n0_ n1_ n2_ n3_; clear hb hbox hg; have hcz6_0 : w5.cell? ⟨gb285, 0, none⟩ = some (.int .i8 a0_0) := (kC_ BK285.out 0).trans rfl; have hcz6_1 : w5.cell? ⟨gb285, 1, none⟩ = some (.int .i8 a0_1) := (kC_ BK285.out 1).trans rfl; have hcz6_2 : w5.cell? ⟨gb285, 2, none⟩ = some (.slice A0_2 l0_2.length c0_2) := (kC_ BK285.out 2).trans rfl; have hfz6_0 := kF_ BK285.out 0; have hfz6_1 := kF_ BK285.out 1; have hfz6_2 := kF_ BK285.out 2) | ((with_reducible refine gate_callee (f := 33) rfl ?_); refine goesL_ (some 5) rfl rfl Try.func33 (by kernel_rfl) rfl #[.agg #[.int .i8 a0_0, .int .i8 a0_1, .slice A0_2 l0_2.length c0_2]] rfl (by (try simp only [List.map_toArray, List.map_cons, List.map_nil]); first | done | rfl | (simp only [List.length_drop, List.length_take]; rfl)) ?_; (with_reducible refine (impl_ValidSquare.calls k a0_0 a0_1 _ _ l0_2 true _ ?side1 ?side2 A2.out).mono ?_); (case side1 => repeat (first | exact (cB_ HR0_2.out HB.out) | (with_reducible refine Kd.C_alloc ?_ _) | (with_reducible refine Kd.C_drewN ?_ _) | (with_reducible refine Kd.C_drew ?_))); (case side2 => exact HC0_2.out); rintro e w7 ⟨rfl, hb⟩; refine ⟨_, rfl, ?_⟩; have n0_ := am_ (kB_ (g := gb285) (o := .cells #[.int .i8 a0_0, .int .i8 a0_1, .slice A0_2 l0_2.length c0_2] 29 (0, 0)) (by (with_reducible repeat (first | apply kN_ | apply kD_ | apply kA_)); exact BK285.out) hb); have n1_ := am_ (bT_ (by repeat (first | (with_reducible first | exact HB.out | apply bA_ | apply bN_ | apply bD_ | refine bS_ ?_ GE285.out) | exact HB.out)) hb); clear BK285; clear HB; have BK285 := n0_; have HB := n1_; clear n0_ n1_; (try clear hb); (try clear hb2); (try clear hk); (try clear hi); have hcz8_0 : w7.cell? ⟨gb285, 0, none⟩ = some (.int .i8 a0_0) := (kC_ BK285.out 0).trans rfl; have hcz8_1 : w7.cell? ⟨gb285, 1, none⟩ = some (.int .i8 a0_1) := (kC_ BK285.out 1).trans rfl; have hcz8_2 : w7.cell? ⟨gb285, 2, none⟩ = some (.slice A0_2 l0_2.length c0_2) := (kC_ BK285.out 2).trans rfl; have hfz8_0 := kF_ BK285.out 0; have hfz8_1 := kF_ BK285.out 1; have hfz8_2 := kF_ BK285.out 2) | ((with_reducible refine gate_callee (f := 34) rfl ?_); refine goesL_ (some 9) rfl rfl Try.func34 (by kernel_rfl) rfl #[.agg #[.int .i8 a0_0, .int .i8 a0_1, .slice A0_2 l0_2.length c0_2], .func (.func 35) #[] #[.pointer (some ⟨gb285, 0, none⟩)]] rfl (by (try simp only [List.map_toArray, List.map_cons, List.map_nil]); first | done | rfl | (simp only [List.length_drop, List.length_take]; rfl)) ?_; (with_reducible refine (impl_Square_cells_at_impl_CrossesIn_1.calls k a0_0 a0_1 _ _ l0_2 _ 1 [(⟨a0_0, a0_1, l0_2⟩ : S29)] t287 _ ?side1 ?side2 ?side3 ?side4 A4.out).mono ?_); (case side1 => repeat (first | exact (cB_ HR0_2.out HB.out) | (with_reducible refine Kd.C_alloc ?_ _) | (with_reducible refine Kd.C_drewN ?_ _) | (with_reducible refine Kd.C_drew ?_))); (case side2 => exact HC0_2.out); (case side3 => exact Kd.C_one_ (by (with_reducible repeat (first | apply kN_ | apply kD_ | apply kA_)); exact BK285.out) (k29_mk _ _ (by exact HC0_2.out) (by repeat (first | exact (cB_ HR0_2.out HB.out) | (with_reducible refine Kd.C_alloc ?_ _) | (with_reducible refine Kd.C_drewN ?_ _) | (with_reducible refine Kd.C_drew ?_))))); (case side4 => exact Nat.le_refl _); rintro e w9 ⟨v288, rfl, ho0, hb⟩; refine ⟨_, rfl, ?_⟩; have n0_ := am_ (Kd.R_lower ho0 (bZ_ (by repeat (first | (with_reducible first | exact HB.out | apply bA_ | apply bN_ | apply bD_ | refine bS_ ?_ GE285.out) | exact HB.out)))); have n1_ := am_ (kB_ (g := gb285) (o := .cells #[.int .i8 a0_0, .int .i8 a0_1, .slice A0_2 l0_2.length c0_2] 29 (0, 0)) (by (with_reducible repeat (first | apply kN_ | apply kD_ | apply kA_)); exact BK285.out) hb); have n2_ := am_ (bT_ (by repeat (first | (with_reducible first | exact HB.out | apply bA_ | apply bN_ | apply bD_ | refine bS_ ?_ GE285.out) | exact HB.out)) hb); clear BK285; clear HB; have HO289 := n0_; have BK285 := n1_; have HB := n2_; clear n0_ n1_ n2_; (try clear hb); (try clear hb2); (try clear hk); (try clear hi); (try clear ho0)))
  go_ret2
  exact ⟨_, by first | rfl | (simp [errW_none, errW_some] <;> rfl) | (simp [*, errW_none, errW_some] <;> rfl), by (with_reducible repeat (first | apply Kd.R_alloc | apply Kd.R_drewN | apply Kd.R_drew)); exact HO289.out, by repeat (first | (with_reducible first | exact HB.out | apply bA_ | apply bN_ | apply bD_ | refine bS_ ?_ GE285.out) | exact HB.out)⟩
 ·
  replace c3 := Bool.eq_false_iff.mpr c3; subst c3; have H1 : (some (([] : List (S66)), 1)) = some (r1, r2) := by rw [if_neg (show ¬ (false = true) by decide)] at H; exact H
  clear H; have H := H1; clear H1; simp only [Option.some.injEq, Prod.mk.injEq] at H; obtain ⟨rfl, rfl⟩ := H
  go_enter Try.func14, Try.ntmps14
  go_wp2_with (first | ((with_reducible refine gate_dst (N := 1) rfl ?_); refine box_event ?hg (N := 1) ?hd (cs := #[.int .i8 a0_0, .int .i8 a0_1, .slice A0_2 l0_2.length c0_2]) (t := 29) ?hr ?_; (case hd => rfl); (case hg => rfl); (case hr => first | (go_simp; done) | (go_simp; rfl)); intro gb285 hg w10 hbox hb; have n0_ := am_ (bT_ (by repeat (first | (with_reducible first | exact HB.out | apply bA_ | apply bN_ | apply bD_) | exact HB.out)) hb); have n1_ := am_ (hbox); have n2_ := am_ ((by rw [hg]; exact (bZ_ (by repeat (first | (with_reducible first | exact HB.out | apply bA_ | apply bN_ | apply bD_) | exact HB.out))) : w.heap.size ≤ gb285)); have n3_ := n2_; clear HB; have HB := n0_; have BK285 := n1_; have GW285 := n2_; have GE285 := n3_; clear n0_ n1_ n2_ n3_; clear hb hbox hg; have hcz11_0 : w10.cell? ⟨gb285, 0, none⟩ = some (.int .i8 a0_0) := (kC_ BK285.out 0).trans rfl; have hcz11_1 : w10.cell? ⟨gb285, 1, none⟩ = some (.int .i8 a0_1) := (kC_ BK285.out 1).trans rfl; have hcz11_2 : w10.cell? ⟨gb285, 2, none⟩ = some (.slice A0_2 l0_2.length c0_2) := (kC_ BK285.out 2).trans rfl; have hfz11_0 := kF_ BK285.out 0; have hfz11_1 := kF_ BK285.out 1; have hfz11_2 := kF_ BK285.out 2) | ((with_reducible refine gate_callee (f := 33) rfl ?_); refine goesL_ (some 5) rfl rfl Try.func33 (by kernel_rfl) rfl #[.agg #[.int .i8 a0_0, .int .i8 a0_1, .slice A0_2 l0_2.length c0_2]] rfl (by (try simp only [List.map_toArray, List.map_cons, List.map_nil]); first | done | rfl | (simp only [List.length_drop, List.length_take]; rfl)) ?_; (with_reducible refine (impl_ValidSquare.calls k a0_0 a0_1 _ _ l0_2 false _ ?side1 ?side2 A2.out).mono ?_); (case side1 => repeat (first | exact (cB_ HR0_2.out HB.out) | (with_reducible refine Kd.C_alloc ?_ _) | (with_reducible refine Kd.C_drewN ?_ _) | (with_reducible refine Kd.C_drew ?_))); (case side2 => exact HC0_2.out); rintro e w12 ⟨rfl, hb⟩; refine ⟨_, rfl, ?_⟩; have n0_ := am_ (kB_ (g := gb285) (o := .cells #[.int .i8 a0_0, .int .i8 a0_1, .slice A0_2 l0_2.length c0_2] 29 (0, 0)) (by (with_reducible repeat (first | apply kN_ | apply kD_ | apply kA_)); exact BK285.out) hb); have n1_ := am_ (bT_ (by repeat (first | (with_reducible first | exact HB.out | apply bA_ | apply bN_ | apply bD_ | refine bS_ ?_ GE285.out) | exact HB.out)) hb); clear BK285; clear HB; have BK285 := n0_; have HB := n1_; clear n0_ n1_; (try clear hb); (try clear hb2); (try clear hk); (try clear hi)))
  go_ret2
  exact ⟨_, by first | rfl | (simp [errW_none, errW_some] <;> rfl) | (simp [*, errW_none, errW_some] <;> rfl), by first | exact Kd.R_nil _ _ _ _ _ | exact Kd.N_nil _ _ _ _ _ | exact Kd.V_nil _ _ _ _ _ | exact Kd.Q_nil _ _ _ _ _ | exact Kd.S_nil _ _ _ _ _, by repeat (first | (with_reducible first | exact HB.out | apply bA_ | apply bN_ | apply bD_ | refine bS_ ?_ GE285.out) | exact HB.out)⟩
end Go.Proofs.Ytgpfjmkmopjfbaa.Q
