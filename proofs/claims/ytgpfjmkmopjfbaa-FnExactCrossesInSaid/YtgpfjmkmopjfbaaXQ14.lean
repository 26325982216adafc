-- Trimmed by a program of this session's.
import Derived.Test.YtgpfjmkmopjfbaaXQ0
import Derived.Test.YtgpfjmkmopjfbaaXQ12
import Derived.Test.YtgpfjmkmopjfbaaXQ13
namespace Go.Proofs.Ytgpfjmkmopjfbaa.Q
open Go.RowKit Go.Proofs.YtgpfjmkmopjfbaaW.PrintWords Go.Proofs.YtgpfjmkmopjfbaaW.PrintLast Go.Proofs.YtgpfjmkmopjfbaaW.PrintMore
attribute [local go_sem] max2_int min2_int max_two min_two max_three min_three max_four min_four
set_option linter.unusedVariables false
set_option linter.unusedSimpArgs false
def impl_CrossesIn_1.f (k : Nat) (a0 : Int) (a1 : Int) (l2 : List (S29)) : Option (Bool) := if 0 < (l2.length : Int) then ((impl_Square_at.f k ((rd_T29 l2 0).f0) ((rd_T29 l2 0).f1) ((rd_T29 l2 0).f2) (wrap64 (a0 - 1)) (wrap64 (a1 - 1))).bind fun t262 => ((impl_Square_at.f k ((rd_T29 l2 0).f0) ((rd_T29 l2 0).f1) ((rd_T29 l2 0).f2) a0 (wrap64 (a1 - 1))).bind fun t264 => ((impl_Square_at.f k ((rd_T29 l2 0).f0) ((rd_T29 l2 0).f1) ((rd_T29 l2 0).f2) (wrap64 (a0 - 1)) a1).bind fun t266 => ((impl_Square_at.f k ((rd_T29 l2 0).f0) ((rd_T29 l2 0).f1) ((rd_T29 l2 0).f2) a0 a1).bind fun t268 => ((some (([t262, t264, t266, t268] : List Int) : List Int)).bind fun y269 => ((slices_Sort_int_int.f y269).bind fun t272 => (if 0 < (y269.length : Int) then (if (rd t272 0) ≥ 0 then ((slices_Compact_int_int.f t272).bind fun t274 => (some ((t274.length : Int) == 4))) else (some false)) else (none)))))))) else (none)
theorem impl_CrossesIn_1.mono : ∀ a0 a1 a2 k, LeO (impl_CrossesIn_1.f k a0 a1 a2) (impl_CrossesIn_1.f (k + 1) a0 a1 a2) := by
 intro a0 a1 a2 k
 unfold impl_CrossesIn_1.f
 repeat' first
   | (with_reducible exact impl_Square_at.mono _ _ _ _ _ _)
   | (with_reducible exact LeO.refl _)
   | (with_reducible exact LeO.none _)
   | (with_reducible refine LeO.ite ?_ ?_)
   | (with_reducible refine LeO.bind ?_ (fun _ => ?_))
   | exact impl_Square_at.mono _ _ _ _ _ _
   | exact LeO.none _
   | refine LeO.ite ?_ ?_
   | refine LeO.bind ?_ (fun _ => ?_)
def impl_CrossesIn_1.T1 : Bool × List (List Nat × List Nat) := (true, [([], []), ([], []), ([1], [1]), ([], []), ([3], [3]), ([0, 2, 4], [0, 2, 4]), ([], []), ([], []), ([], []), ([8], [8]), ([6, 7, 9, 5], [6, 7, 9]), ([], []), ([], []), ([12], [12]), ([], []), ([11, 13, 14, 10], [11, 13, 14]), ([], []), ([], []), ([], []), ([16, 17, 18, 15], [16, 17, 18]), ([5, 10, 15, 19], [5, 10, 15, 19]), ([20, 19, 0, 1, 2, 3, 4, 5, 6, 7, 8, 9, 10, 11, 12, 13, 14, 15, 16, 17, 18, 19, 20], [20])])
def impl_CrossesIn_1.B1 : List Nat := [0, 0, 2, 0, 8, 31, 0, 0, 0, 256, 1023, 0, 0, 4096, 0, 32767, 0, 0, 0, 524287, 1048575, 2097151]
theorem impl_CrossesIn_1.tab1 : rtab .any (opsOf Try.f35 1) = impl_CrossesIn_1.T1 := by kernel_rfl
theorem impl_CrossesIn_1.bits1 : waitsOk impl_CrossesIn_1.T1.2 impl_CrossesIn_1.B1 = true := by kernel_rfl
set_option maxHeartbeats 8000000 in
set_option maxRecDepth 100000 in
theorem impl_CrossesIn_1.calls (k : Nat) (a0 : Int) (a1 : Int) (A2 : Option Addr) (c2 : Nat) (l2 : List (S29)) (r : Bool) (w : World) (hr2 : Kd.C k29 w A2 l2.length l2) (hc2 : l2.length ≤ c2) (h : impl_CrossesIn_1.f k a0 a1 l2 = some r) :
  Calls Try.prog 35 #[.int .i64 a0, .int .i64 a1, .pointer A2] w fun e w' => e = .returned (.bool r) ∧ Below w.heap.size w w' := by
 have hu29 := Try.underlying29; have HR2 := am_ hr2; have HC2 := am_ hc2; clear hr2 hc2; have HB := am_ (Below.refl w.heap.size w); have H : (if 0 < (l2.length : Int) then ((impl_Square_at.f k ((rd_T29 l2 0).f0) ((rd_T29 l2 0).f1) ((rd_T29 l2 0).f2) (wrap64 (a0 - 1)) (wrap64 (a1 - 1))).bind fun t262 => ((impl_Square_at.f k ((rd_T29 l2 0).f0) ((rd_T29 l2 0).f1) ((rd_T29 l2 0).f2) a0 (wrap64 (a1 - 1))).bind fun t264 => ((impl_Square_at.f k ((rd_T29 l2 0).f0) ((rd_T29 l2 0).f1) ((rd_T29 l2 0).f2) (wrap64 (a0 - 1)) a1).bind fun t266 => ((impl_Square_at.f k ((rd_T29 l2 0).f0) ((rd_T29 l2 0).f1) ((rd_T29 l2 0).f2) a0 a1).bind fun t268 => ((some (([t262, t264, t266, t268] : List Int) : List Int)).bind fun y269 => ((slices_Sort_int_int.f y269).bind fun t272 => (if 0 < (y269.length : Int) then (if (rd t272 0) ≥ 0 then ((slices_Compact_int_int.f t272).bind fun t274 => (some ((t274.length : Int) == 4))) else (some false)) else (none)))))))) else (none)) = some r := h; clear h
 by_cases c4 : 0 < (l2.length : Int)
 ·
  rw [if_pos c4] at H; have c4b0 : decide (0 < (l2.length : Int)) = true := decide_eq_true c4; have c4b1 : decide (0 < l2.length) = true := decide_eq_true (by omega); clear c4; replace H := Option.bind_eq_some_iff.mp H; obtain ⟨t262, A50, H⟩ := H; replace H : ((impl_Square_at.f k ((rd_T29 l2 0).f0) ((rd_T29 l2 0).f1) ((rd_T29 l2 0).f2) a0 (wrap64 (a1 - 1))).bind fun t264 => ((impl_Square_at.f k ((rd_T29 l2 0).f0) ((rd_T29 l2 0).f1) ((rd_T29 l2 0).f2) (wrap64 (a0 - 1)) a1).bind fun t266 => ((impl_Square_at.f k ((rd_T29 l2 0).f0) ((rd_T29 l2 0).f1) ((rd_T29 l2 0).f2) a0 a1).bind fun t268 => ((some (([t262, t264, t266, t268] : List Int) : List Int)).bind fun y269 => ((slices_Sort_int_int.f y269).bind fun t272 => (if 0 < (y269.length : Int) then (if (rd t272 0) ≥ 0 then ((slices_Compact_int_int.f t272).bind fun t274 => (some ((t274.length : Int) == 4))) else (some false)) else (none))))))) = some r := H; have A5 := am_ A50; clear A50; replace H := Option.bind_eq_some_iff.mp H; obtain ⟨t264, A60, H⟩ := H; replace H : ((impl_Square_at.f k ((rd_T29 l2 0).f0) ((rd_T29 l2 0).f1) ((rd_T29 l2 0).f2) (wrap64 (a0 - 1)) a1).bind fun t266 => ((impl_Square_at.f k ((rd_T29 l2 0).f0) ((rd_T29 l2 0).f1) ((rd_T29 l2 0).f2) a0 a1).bind fun t268 => ((some (([t262, t264, t266, t268] : List Int) : List Int)).bind fun y269 => ((slices_Sort_int_int.f y269).bind fun t272 => (if 0 < (y269.length : Int) then (if (rd t272 0) ≥ 0 then ((slices_Compact_int_int.f t272).bind fun t274 => (some ((t274.length : Int) == 4))) else (some false)) else (none)))))) = some r := H; have A6 := am_ A60; clear A60; replace H := Option.bind_eq_some_iff.mp H; obtain ⟨t266, A70, H⟩ := H; replace H : ((impl_Square_at.f k ((rd_T29 l2 0).f0) ((rd_T29 l2 0).f1) ((rd_T29 l2 0).f2) a0 a1).bind fun t268 => ((some (([t262, t264, t266, t268] : List Int) : List Int)).bind fun y269 => ((slices_Sort_int_int.f y269).bind fun t272 => (if 0 < (y269.length : Int) then (if (rd t272 0) ≥ 0 then ((slices_Compact_int_int.f t272).bind fun t274 => (some ((t274.length : Int) == 4))) else (some false)) else (none))))) = some r := H; have A7 := am_ A70; clear A70; replace H := Option.bind_eq_some_iff.mp H; obtain ⟨t268, A80, H⟩ := H; replace H : ((some (([t262, t264, t266, t268] : List Int) : List Int)).bind fun y269 => ((slices_Sort_int_int.f y269).bind fun t272 => (if 0 < (y269.length : Int) then (if (rd t272 0) ≥ 0 then ((slices_Compact_int_int.f t272).bind fun t274 => (some ((t274.length : Int) == 4))) else (some false)) else (none)))) = some r := H; have A8 := am_ A80; clear A80; obtain ⟨y269, hy269⟩ : ∃ y_ : List Int, y_ = (([t262, t264, t266, t268] : List Int)) := ⟨_, rfl⟩
  replace H : ((slices_Sort_int_int.f y269).bind fun t272 => (if 0 < (y269.length : Int) then (if (rd t272 0) ≥ 0 then ((slices_Compact_int_int.f t272).bind fun t274 => (some ((t274.length : Int) == 4))) else (some false)) else (none))) = some r := by first | (rw [hy269]; with_reducible exact H) | (have H2_ := (Option.bind_some _ _).symm.trans H; rw [hy269]; with_reducible exact H2_) | (have H2_ := (Option.bind_some _ _).symm.trans H; with_reducible exact H2_) | with_reducible exact H | (rw [hy269]; exact H) | exact H
  have Ny269 := am_ hy269; clear hy269; replace H := Option.bind_eq_some_iff.mp H; obtain ⟨t272, A90, H⟩ := H; replace H : (if 0 < (y269.length : Int) then (if (rd t272 0) ≥ 0 then ((slices_Compact_int_int.f t272).bind fun t274 => (some ((t274.length : Int) == 4))) else (some false)) else (none)) = some r := H; have A9 := am_ A90; clear A90
  by_cases c10 : 0 < (y269.length : Int)
  ·
   rw [if_pos c10] at H; have c10b0 : decide (0 < (y269.length : Int)) = true := decide_eq_true c10; have c10b1 : decide (0 < y269.length) = true := decide_eq_true (by omega); clear c10
   by_cases c11 : (rd t272 0) ≥ 0
   ·
    rw [if_pos c11] at H; have c11b0 : decide (0 ≤ (rd t272 0)) = true := decide_eq_true c11; clear c11; replace H := Option.bind_eq_some_iff.mp H; obtain ⟨t274, A120, H⟩ := H; replace H : (some ((t274.length : Int) == 4)) = some r := H; have A12 := am_ A120; clear A120; obtain rfl := Option.some.inj H
    go_enter Try.func35, Try.ntmps35
    try go_wp2
    have n0_ := am_ (bD_ HB.out); clear HB; have HB := n0_; clear n0_; have p261 : 0 ≤ (0 : Int) := (by omega)
    have q261 : 0 < (l2.length : Int) := od_ (by first | (with_reducible assumption) | assumption); obtain ⟨ad261, A261_2, c261_2, e261, hx261_0, hx261_1, hx261_2, hl261_2, hi261_2⟩ := at_T29 HR2.out 0 p261 q261; have hw261_2 := hx261_2; (try rw [show ((0 : Int)).toNat = 0 from rfl] at hw261_2); (try rw [show 0 * 3 = 0 from rfl] at hw261_2); (try rw [Addr.add_zero'] at hw261_2); have hw261_1 := hx261_1; (try rw [show ((0 : Int)).toNat = 0 from rfl] at hw261_1); (try rw [show 0 * 3 = 0 from rfl] at hw261_1); (try rw [Addr.add_zero'] at hw261_1); have hw261_0 := hx261_0; (try rw [show ((0 : Int)).toNat = 0 from rfl] at hw261_0); (try rw [show 0 * 3 = 0 from rfl] at hw261_0); (try rw [Addr.add_zero'] at hw261_0)
    cases e261
    have qi261 : (0 < l2.length) = True := eq_true (by omega); (try rw [show ((0 : Int)).toNat = 0 from rfl] at hx261_0); (try rw [show 0 * 3 = 0 from rfl] at hx261_0); (try rw [Addr.add_zero'] at hx261_0); (try rw [show ((0 : Int)).toNat = 0 from rfl] at hx261_1); (try rw [show 0 * 3 = 0 from rfl] at hx261_1); (try rw [Addr.add_zero'] at hx261_1); (try rw [show ((0 : Int)).toNat = 0 from rfl] at hx261_2); (try rw [show 0 * 3 = 0 from rfl] at hx261_2); (try rw [Addr.add_zero'] at hx261_2); replace hx261_0 := (HB.out.cell (bl_ w _ hx261_0)).trans hx261_0; replace hx261_1 := (HB.out.cell (bl_ w _ hx261_1)).trans hx261_1; replace hx261_2 := (HB.out.cell (bl_ w _ hx261_2)).trans hx261_2; have HR261_2 := am_ hi261_2; have HC261_2 := am_ hl261_2; clear hi261_2 hl261_2; replace p261 := eq_true p261; replace q261 := eq_true q261; have p263 : 0 ≤ (0 : Int) := (by omega)
    have q263 : 0 < (l2.length : Int) := od_ (by first | (with_reducible assumption) | assumption); obtain ⟨ad263, A263_2, c263_2, e263, hx263_0, hx263_1, hx263_2, hl263_2, hi263_2⟩ := at_T29 HR2.out 0 p263 q263; have hw263_2 := hx263_2; (try rw [show ((0 : Int)).toNat = 0 from rfl] at hw263_2); (try rw [show 0 * 3 = 0 from rfl] at hw263_2); (try rw [Addr.add_zero'] at hw263_2); have hw263_1 := hx263_1; (try rw [show ((0 : Int)).toNat = 0 from rfl] at hw263_1); (try rw [show 0 * 3 = 0 from rfl] at hw263_1); (try rw [Addr.add_zero'] at hw263_1); have hw263_0 := hx263_0; (try rw [show ((0 : Int)).toNat = 0 from rfl] at hw263_0); (try rw [show 0 * 3 = 0 from rfl] at hw263_0); (try rw [Addr.add_zero'] at hw263_0); obtain rfl : ad261 = ad263 := (by injection e263)
    have qi263 : (0 < l2.length) = True := eq_true (by omega); (try rw [show ((0 : Int)).toNat = 0 from rfl] at hx263_0); (try rw [show 0 * 3 = 0 from rfl] at hx263_0); (try rw [Addr.add_zero'] at hx263_0); (try rw [show ((0 : Int)).toNat = 0 from rfl] at hx263_1); (try rw [show 0 * 3 = 0 from rfl] at hx263_1); (try rw [Addr.add_zero'] at hx263_1); (try rw [show ((0 : Int)).toNat = 0 from rfl] at hx263_2); (try rw [show 0 * 3 = 0 from rfl] at hx263_2); (try rw [Addr.add_zero'] at hx263_2); replace hx263_0 := (HB.out.cell (bl_ w _ hx263_0)).trans hx263_0; replace hx263_1 := (HB.out.cell (bl_ w _ hx263_1)).trans hx263_1; replace hx263_2 := (HB.out.cell (bl_ w _ hx263_2)).trans hx263_2; have HR263_2 := am_ hi263_2; have HC263_2 := am_ hl263_2; clear hi263_2 hl263_2; replace p263 := eq_true p263; replace q263 := eq_true q263; have ea_ := Option.some.inj (hx261_2.symm.trans hx263_2)
    injection ea_ with ea_ en_ ec_
    subst ea_; subst ec_; clear en_; have p265 : 0 ≤ (0 : Int) := (by omega)
    have q265 : 0 < (l2.length : Int) := od_ (by first | (with_reducible assumption) | assumption); obtain ⟨ad265, A265_2, c265_2, e265, hx265_0, hx265_1, hx265_2, hl265_2, hi265_2⟩ := at_T29 HR2.out 0 p265 q265; have hw265_2 := hx265_2; (try rw [show ((0 : Int)).toNat = 0 from rfl] at hw265_2); (try rw [show 0 * 3 = 0 from rfl] at hw265_2); (try rw [Addr.add_zero'] at hw265_2); have hw265_1 := hx265_1; (try rw [show ((0 : Int)).toNat = 0 from rfl] at hw265_1); (try rw [show 0 * 3 = 0 from rfl] at hw265_1); (try rw [Addr.add_zero'] at hw265_1); have hw265_0 := hx265_0; (try rw [show ((0 : Int)).toNat = 0 from rfl] at hw265_0); (try rw [show 0 * 3 = 0 from rfl] at hw265_0); (try rw [Addr.add_zero'] at hw265_0); obtain rfl : ad261 = ad265 := (by injection e265)
    have qi265 : (0 < l2.length) = True := eq_true (by omega); (try rw [show ((0 : Int)).toNat = 0 from rfl] at hx265_0); (try rw [show 0 * 3 = 0 from rfl] at hx265_0); (try rw [Addr.add_zero'] at hx265_0); (try rw [show ((0 : Int)).toNat = 0 from rfl] at hx265_1); (try rw [show 0 * 3 = 0 from rfl] at hx265_1); (try rw [Addr.add_zero'] at hx265_1); (try rw [show ((0 : Int)).toNat = 0 from rfl] at hx265_2); (try rw [show 0 * 3 = 0 from rfl] at hx265_2); (try rw [Addr.add_zero'] at hx265_2); replace hx265_0 := (HB.out.cell (bl_ w _ hx265_0)).trans hx265_0; replace hx265_1 := (HB.out.cell (bl_ w _ hx265_1)).trans hx265_1; replace hx265_2 := (HB.out.cell (bl_ w _ hx265_2)).trans hx265_2; have HR265_2 := am_ hi265_2; have HC265_2 := am_ hl265_2; clear hi265_2 hl265_2; replace p265 := eq_true p265; replace q265 := eq_true q265; have ea_ := Option.some.inj (hx261_2.symm.trans hx265_2)
    injection ea_ with ea_ en_ ec_
    subst ea_; subst ec_; clear en_; have p267 : 0 ≤ (0 : Int) := (by omega)
    have q267 : 0 < (l2.length : Int) := od_ (by first | (with_reducible assumption) | assumption); obtain ⟨ad267, A267_2, c267_2, e267, hx267_0, hx267_1, hx267_2, hl267_2, hi267_2⟩ := at_T29 HR2.out 0 p267 q267; have hw267_2 := hx267_2; (try rw [show ((0 : Int)).toNat = 0 from rfl] at hw267_2); (try rw [show 0 * 3 = 0 from rfl] at hw267_2); (try rw [Addr.add_zero'] at hw267_2); have hw267_1 := hx267_1; (try rw [show ((0 : Int)).toNat = 0 from rfl] at hw267_1); (try rw [show 0 * 3 = 0 from rfl] at hw267_1); (try rw [Addr.add_zero'] at hw267_1); have hw267_0 := hx267_0; (try rw [show ((0 : Int)).toNat = 0 from rfl] at hw267_0); (try rw [show 0 * 3 = 0 from rfl] at hw267_0); (try rw [Addr.add_zero'] at hw267_0); obtain rfl : ad261 = ad267 := (by injection e267)
    have qi267 : (0 < l2.length) = True := eq_true (by omega); (try rw [show ((0 : Int)).toNat = 0 from rfl] at hx267_0); (try rw [show 0 * 3 = 0 from rfl] at hx267_0); (try rw [Addr.add_zero'] at hx267_0); (try rw [show ((0 : Int)).toNat = 0 from rfl] at hx267_1); (try rw [show 0 * 3 = 0 from rfl] at hx267_1); (try rw [Addr.add_zero'] at hx267_1); (try rw [show ((0 : Int)).toNat = 0 from rfl] at hx267_2); (try rw [show 0 * 3 = 0 from rfl] at hx267_2); (try rw [Addr.add_zero'] at hx267_2); replace hx267_0 := (HB.out.cell (bl_ w _ hx267_0)).trans hx267_0; replace hx267_1 := (HB.out.cell (bl_ w _ hx267_1)).trans hx267_1; replace hx267_2 := (HB.out.cell (bl_ w _ hx267_2)).trans hx267_2; have HR267_2 := am_ hi267_2; have HC267_2 := am_ hl267_2; clear hi267_2 hl267_2; replace p267 := eq_true p267; replace q267 := eq_true q267; have ea_ := Option.some.inj (hx261_2.symm.trans hx267_2)
    injection ea_ with ea_ en_ ec_
    subst ea_; subst ec_; clear en_; refine start_ (n := 22) (S := fun w' => w'.cell? ad261 = some (.int .i8 ((rd_T29 l2 0).f0)) ∧ w'.cell? ⟨ad261.block, ad261.off + 1, none⟩ = some (.int .i8 ((rd_T29 l2 0).f1)) ∧ w'.cell? ⟨ad261.block, ad261.off + 2, none⟩ = some (.slice A261_2 ((rd_T29 l2 0).f2).length c261_2) ∧ w'.cell? ad261 = some (.int .i8 ((rd_T29 l2 0).f0)) ∧ w'.cell? ⟨ad261.block, ad261.off + 1, none⟩ = some (.int .i8 ((rd_T29 l2 0).f1)) ∧ w'.cell? ⟨ad261.block, ad261.off + 2, none⟩ = some (.slice A261_2 ((rd_T29 l2 0).f2).length c261_2) ∧ w'.cell? ad261 = some (.int .i8 ((rd_T29 l2 0).f0)) ∧ w'.cell? ⟨ad261.block, ad261.off + 1, none⟩ = some (.int .i8 ((rd_T29 l2 0).f1)) ∧ w'.cell? ⟨ad261.block, ad261.off + 2, none⟩ = some (.slice A261_2 ((rd_T29 l2 0).f2).length c261_2) ∧ w'.cell? ad261 = some (.int .i8 ((rd_T29 l2 0).f0)) ∧ w'.cell? ⟨ad261.block, ad261.off + 1, none⟩ = some (.int .i8 ((rd_T29 l2 0).f1)) ∧ w'.cell? ⟨ad261.block, ad261.off + 2, none⟩ = some (.slice A261_2 ((rd_T29 l2 0).f2).length c261_2)) (ds := []) (mB_ 22 0) (by kernel_rfl) rfl rfl ⟨((HB.out.cell (bl_ w _ hw261_0)).trans hw261_0), ((HB.out.cell (bl_ w _ hw261_1)).trans hw261_1), ((HB.out.cell (bl_ w _ hw261_2)).trans hw261_2), ((HB.out.cell (bl_ w _ hw263_0)).trans hw263_0), ((HB.out.cell (bl_ w _ hw263_1)).trans hw263_1), ((HB.out.cell (bl_ w _ hw263_2)).trans hw263_2), ((HB.out.cell (bl_ w _ hw265_0)).trans hw265_0), ((HB.out.cell (bl_ w _ hw265_1)).trans hw265_1), ((HB.out.cell (bl_ w _ hw265_2)).trans hw265_2), ((HB.out.cell (bl_ w _ hw267_0)).trans hw267_0), ((HB.out.cell (bl_ w _ hw267_1)).trans hw267_1), ((HB.out.cell (bl_ w _ hw267_2)).trans hw267_2)⟩ (fun hHeld => ?_); refine with_tabW impl_CrossesIn_1.tab1 impl_CrossesIn_1.bits1 (fun HT_ HW_ => ?_); generalize w.drew = w13 at HB HR261_2 HR263_2 HR265_2 HR267_2 hx261_0 hx261_1 hx261_2 hx263_0 hx263_1 hx263_2 hx265_0 hx265_1 hx265_2 hx267_0 hx267_1 hx267_2 hHeld ⊢; refine pure_ (i := 1) (N := some 8) (v := ?_) (a' := ?_) (mB_ 22 2) rfl rfl (any_of HT_.out (by kernel_rfl)) (fun _ _ _ h => h) (Or.inl ⟨by rfl, ?_⟩) ?_ ?_; rotate_left
    ·
     intro w'
     go_simp
     with_reducible rfl
    rotate_left
    ·
     simp only [Act.put, z1_, z2_, z3_, i64_w, i32_w]
     rfl
    refine pure_ (i := 2) (N := some 9) (v := ?_) (a' := ?_) (mB_ 22 6) rfl rfl (any_of HT_.out (by kernel_rfl)) (fun _ _ _ h => h) (Or.inl ⟨by rfl, ?_⟩) ?_ ?_; rotate_left
    ·
     intro w'
     go_simp
     with_reducible rfl
    rotate_left
    ·
     simp only [Act.put, z1_, z2_, z3_, i64_w, i32_w]
     rfl
    refine pure_ (i := 3) (N := some 10) (v := ?_) (a' := ?_) (mB_ 22 14) rfl rfl (any_of HT_.out (by kernel_rfl)) (fun _ _ _ h => h) (Or.inl ⟨by rfl, ?_⟩) ?_ ?_; rotate_left
    ·
     intro w'
     go_simp
     with_reducible rfl
    rotate_left
    ·
     simp only [Act.put, z1_, z2_, z3_, i64_w, i32_w]
     rfl
    refine pure_ (i := 4) (N := some 11) (v := ?_) (a' := ?_) (mB_ 22 30) rfl rfl (any_of HT_.out (by kernel_rfl)) (fun _ _ _ h => h) (Or.inl ⟨by rfl, ?_⟩) ?_ ?_; rotate_left
    ·
     intro w'
     go_simp
     with_reducible rfl
    rotate_left
    ·
     simp only [Act.put, z1_, z2_, z3_, i64_w, i32_w]
     rfl
    refine pure_ (i := 7) (N := some 14) (v := ?_) (a' := ?_) (mB_ 22 158) rfl rfl (any_of HT_.out (by kernel_rfl)) (fun _ _ _ h => h) (Or.inl ⟨by rfl, ?_⟩) ?_ ?_; rotate_left
    ·
     intro w'
     go_simp
     with_reducible rfl
    rotate_left
    ·
     simp only [Act.put, z1_, z2_, z3_, i64_w, i32_w]
     rfl
    refine pure_ (i := 8) (N := some 15) (v := ?_) (a' := ?_) (mB_ 22 414) rfl rfl (any_of HT_.out (by kernel_rfl)) (fun _ _ _ h => h) (Or.inl ⟨by rfl, ?_⟩) ?_ ?_; rotate_left
    ·
     intro w'
     go_simp
     with_reducible rfl
    rotate_left
    ·
     simp only [Act.put, z1_, z2_, z3_, i64_w, i32_w]
     rfl
    refine pure_ (i := 9) (N := some 16) (v := ?_) (a' := ?_) (mB_ 22 926) rfl rfl (any_of HT_.out (by kernel_rfl)) (fun _ _ _ h => h) (Or.inl ⟨by rfl, ?_⟩) ?_ ?_; rotate_left
    ·
     intro w'
     go_simp
     with_reducible rfl
    rotate_left
    ·
     simp only [Act.put, z1_, z2_, z3_, i64_w, i32_w]
     rfl
    refine pure_ (i := 12) (N := some 19) (v := ?_) (a' := ?_) (mB_ 22 5022) rfl rfl (any_of HT_.out (by kernel_rfl)) (fun _ _ _ h => h) (Or.inl ⟨by rfl, ?_⟩) ?_ ?_; rotate_left
    ·
     intro w'
     go_simp
     with_reducible rfl
    rotate_left
    ·
     simp only [Act.put, z1_, z2_, z3_, i64_w, i32_w]
     rfl
    refine pure_ (i := 13) (N := some 20) (v := ?_) (a' := ?_) (mB_ 22 13214) rfl rfl (any_of HT_.out (by kernel_rfl)) (fun _ _ _ h => h) (Or.inl ⟨by rfl, ?_⟩) ?_ ?_; rotate_left
    ·
     intro w'
     go_simp
     with_reducible rfl
    rotate_left
    ·
     simp only [Act.put, z1_, z2_, z3_, i64_w, i32_w]
     rfl
    refine pure_ (i := 14) (N := some 21) (v := ?_) (a' := ?_) (mB_ 22 29598) rfl rfl (any_of HT_.out (by kernel_rfl)) (fun _ _ _ h => h) (Or.inl ⟨by rfl, ?_⟩) ?_ ?_; rotate_left
    ·
     intro w'
     go_simp
     with_reducible rfl
    rotate_left
    ·
     simp only [Act.put, z1_, z2_, z3_, i64_w, i32_w]
     rfl
    refine pure_ (i := 17) (N := some 24) (v := ?_) (a' := ?_) (mB_ 22 160670) rfl rfl (any_of HT_.out (by kernel_rfl)) (fun _ _ _ h => h) (Or.inl ⟨by rfl, ?_⟩) ?_ ?_; rotate_left
    ·
     intro w'
     go_simp
     with_reducible rfl
    rotate_left
    ·
     simp only [Act.put, z1_, z2_, z3_, i64_w, i32_w]
     rfl
    refine pure_ (i := 18) (N := some 25) (v := ?_) (a' := ?_) (mB_ 22 422814) rfl rfl (any_of HT_.out (by kernel_rfl)) (fun _ _ _ h => h) (Or.inl ⟨by rfl, ?_⟩) ?_ ?_; rotate_left
    ·
     intro w'
     go_simp
     with_reducible rfl
    rotate_left
    ·
     simp only [Act.put, z1_, z2_, z3_, i64_w, i32_w]
     rfl
    refine take_ (i := 0) (N := some 7) (v := ?_) (a' := ?_) (mB_ 22 422815) rfl rfl (take_ofW HT_.out HW_.out (by kernel_rfl)) (fun _ _ _ h => h) (Or.inl ⟨by rfl, ?_⟩) hHeld ?_ ?_; rotate_left
    ·
     rintro w' ⟨s0, s1, s2, s3, s4, s5, s6, s7, s8, s9, s10, s11⟩
     go_simp
     with_reducible rfl
    rotate_left
    ·
     simp only [Act.put, z1_, z2_, z3_, i64_w, i32_w]
     rfl
    refine take_ (i := 6) (N := some 13) (v := ?_) (a' := ?_) (mB_ 22 422879) rfl rfl (take_ofW HT_.out HW_.out (by kernel_rfl)) (fun _ _ _ h => h) (Or.inl ⟨by rfl, ?_⟩) hHeld ?_ ?_; rotate_left
    ·
     rintro w' ⟨s0, s1, s2, s3, s4, s5, s6, s7, s8, s9, s10, s11⟩
     go_simp
     with_reducible rfl
    rotate_left
    ·
     simp only [Act.put, z1_, z2_, z3_, i64_w, i32_w]
     rfl
    refine take_ (i := 11) (N := some 18) (v := ?_) (a' := ?_) (mB_ 22 424927) rfl rfl (take_ofW HT_.out HW_.out (by kernel_rfl)) (fun _ _ _ h => h) (Or.inl ⟨by rfl, ?_⟩) hHeld ?_ ?_; rotate_left
    ·
     rintro w' ⟨s0, s1, s2, s3, s4, s5, s6, s7, s8, s9, s10, s11⟩
     go_simp
     with_reducible rfl
    rotate_left
    ·
     simp only [Act.put, z1_, z2_, z3_, i64_w, i32_w]
     rfl
    refine take_ (i := 16) (N := some 23) (v := ?_) (a' := ?_) (mB_ 22 490463) rfl rfl (take_ofW HT_.out HW_.out (by kernel_rfl)) (fun _ _ _ h => h) (Or.inl ⟨by rfl, ?_⟩) hHeld ?_ ?_; rotate_left
    ·
     rintro w' ⟨s0, s1, s2, s3, s4, s5, s6, s7, s8, s9, s10, s11⟩
     go_simp
     with_reducible rfl
    rotate_left
    ·
     simp only [Act.put, z1_, z2_, z3_, i64_w, i32_w]
     rfl
    refine one_ (i := 5) (N := some 12) (mB_ 22 490495) rfl rfl (one_of HT_.out (by kernel_rfl)) (by decide) (fun K hK => ?_); refine goes_ Try.func36 (by kernel_rfl) rfl #[.agg #[.int .i8 ((rd_T29 l2 0).f0), .int .i8 ((rd_T29 l2 0).f1), .slice A261_2 ((rd_T29 l2 0).f2).length c261_2], .int .i64 (wrap64 (a0 - 1)), .int .i64 (wrap64 (a1 - 1))] (by rfl) rfl rfl (by (try simp only [List.map_toArray, List.map_cons, List.map_nil]); first | done | rfl | (simp only [List.length_drop, List.length_take]; rfl)) ?_
    with_reducible refine (impl_Square_at.calls k ((rd_T29 l2 0).f0) ((rd_T29 l2 0).f1) _ _ ((rd_T29 l2 0).f2) (wrap64 (a0 - 1)) (wrap64 (a1 - 1)) t262 _ ?side1 ?side2 A5.out).mono ?_
    (case side1 => repeat (first | exact (cB_ HR261_2.out HB.out) | (with_reducible refine Kd.C_alloc ?_ _) | (with_reducible refine Kd.C_drewN ?_ _) | (with_reducible refine Kd.C_drew ?_)))
    (case side2 => exact HC261_2.out)
    rintro e w14 ⟨rfl, hb⟩; refine ⟨_, rfl, ?_⟩; have n0_ := am_ (bT_ (by repeat (first | (with_reducible first | exact HB.out | apply bA_ | apply bN_ | apply bD_) | exact HB.out)) hb); clear HB; have HB := n0_; clear n0_; (try clear hb); (try clear hb2); (try clear hk); (try clear hi); refine hK.out _ _ ⟨((HB.out.cell (bl_ w _ hw261_0)).trans hw261_0), ((HB.out.cell (bl_ w _ hw261_1)).trans hw261_1), ((HB.out.cell (bl_ w _ hw261_2)).trans hw261_2), ((HB.out.cell (bl_ w _ hw263_0)).trans hw263_0), ((HB.out.cell (bl_ w _ hw263_1)).trans hw263_1), ((HB.out.cell (bl_ w _ hw263_2)).trans hw263_2), ((HB.out.cell (bl_ w _ hw265_0)).trans hw265_0), ((HB.out.cell (bl_ w _ hw265_1)).trans hw265_1), ((HB.out.cell (bl_ w _ hw265_2)).trans hw265_2), ((HB.out.cell (bl_ w _ hw267_0)).trans hw267_0), ((HB.out.cell (bl_ w _ hw267_1)).trans hw267_1), ((HB.out.cell (bl_ w _ hw267_2)).trans hw267_2)⟩ (fun hHeld => ?_); clear hK K; refine norm_ (a' := ?_) ?_ ?_; rotate_left
    ·
     show Act.put _ (some 12) _ = _
     simp only [Act.put, z1_, z2_, z3_, i64_w, i32_w]
     rfl
    refine one_ (i := 10) (N := some 17) (mB_ 22 491519) rfl rfl (one_of HT_.out (by kernel_rfl)) (by decide) (fun K hK => ?_); refine goes_ Try.func36 (by kernel_rfl) rfl #[.agg #[.int .i8 ((rd_T29 l2 0).f0), .int .i8 ((rd_T29 l2 0).f1), .slice A261_2 ((rd_T29 l2 0).f2).length c261_2], .int .i64 a0, .int .i64 (wrap64 (a1 - 1))] (by rfl) rfl rfl (by (try simp only [List.map_toArray, List.map_cons, List.map_nil]); first | done | rfl | (simp only [List.length_drop, List.length_take]; rfl)) ?_
    with_reducible refine (impl_Square_at.calls k ((rd_T29 l2 0).f0) ((rd_T29 l2 0).f1) _ _ ((rd_T29 l2 0).f2) a0 (wrap64 (a1 - 1)) t264 _ ?side1 ?side2 A6.out).mono ?_
    (case side1 => repeat (first | exact (cB_ HR263_2.out HB.out) | (with_reducible refine Kd.C_alloc ?_ _) | (with_reducible refine Kd.C_drewN ?_ _) | (with_reducible refine Kd.C_drew ?_)))
    (case side2 => exact HC263_2.out)
    rintro e w15 ⟨rfl, hb⟩; refine ⟨_, rfl, ?_⟩; have n0_ := am_ (bT_ (by repeat (first | (with_reducible first | exact HB.out | apply bA_ | apply bN_ | apply bD_) | exact HB.out)) hb); clear HB; have HB := n0_; clear n0_; (try clear hb); (try clear hb2); (try clear hk); (try clear hi); refine hK.out _ _ ⟨((HB.out.cell (bl_ w _ hw261_0)).trans hw261_0), ((HB.out.cell (bl_ w _ hw261_1)).trans hw261_1), ((HB.out.cell (bl_ w _ hw261_2)).trans hw261_2), ((HB.out.cell (bl_ w _ hw263_0)).trans hw263_0), ((HB.out.cell (bl_ w _ hw263_1)).trans hw263_1), ((HB.out.cell (bl_ w _ hw263_2)).trans hw263_2), ((HB.out.cell (bl_ w _ hw265_0)).trans hw265_0), ((HB.out.cell (bl_ w _ hw265_1)).trans hw265_1), ((HB.out.cell (bl_ w _ hw265_2)).trans hw265_2), ((HB.out.cell (bl_ w _ hw267_0)).trans hw267_0), ((HB.out.cell (bl_ w _ hw267_1)).trans hw267_1), ((HB.out.cell (bl_ w _ hw267_2)).trans hw267_2)⟩ (fun hHeld => ?_); clear hK K; refine norm_ (a' := ?_) ?_ ?_; rotate_left
    ·
     show Act.put _ (some 17) _ = _
     simp only [Act.put, z1_, z2_, z3_, i64_w, i32_w]
     rfl
    refine one_ (i := 15) (N := some 22) (mB_ 22 524287) rfl rfl (one_of HT_.out (by kernel_rfl)) (by decide) (fun K hK => ?_); refine goes_ Try.func36 (by kernel_rfl) rfl #[.agg #[.int .i8 ((rd_T29 l2 0).f0), .int .i8 ((rd_T29 l2 0).f1), .slice A261_2 ((rd_T29 l2 0).f2).length c261_2], .int .i64 (wrap64 (a0 - 1)), .int .i64 a1] (by rfl) rfl rfl (by (try simp only [List.map_toArray, List.map_cons, List.map_nil]); first | done | rfl | (simp only [List.length_drop, List.length_take]; rfl)) ?_
    with_reducible refine (impl_Square_at.calls k ((rd_T29 l2 0).f0) ((rd_T29 l2 0).f1) _ _ ((rd_T29 l2 0).f2) (wrap64 (a0 - 1)) a1 t266 _ ?side1 ?side2 A7.out).mono ?_
    (case side1 => repeat (first | exact (cB_ HR265_2.out HB.out) | (with_reducible refine Kd.C_alloc ?_ _) | (with_reducible refine Kd.C_drewN ?_ _) | (with_reducible refine Kd.C_drew ?_)))
    (case side2 => exact HC265_2.out)
    rintro e w16 ⟨rfl, hb⟩; refine ⟨_, rfl, ?_⟩; have n0_ := am_ (bT_ (by repeat (first | (with_reducible first | exact HB.out | apply bA_ | apply bN_ | apply bD_) | exact HB.out)) hb); clear HB; have HB := n0_; clear n0_; (try clear hb); (try clear hb2); (try clear hk); (try clear hi); refine hK.out _ _ ⟨((HB.out.cell (bl_ w _ hw261_0)).trans hw261_0), ((HB.out.cell (bl_ w _ hw261_1)).trans hw261_1), ((HB.out.cell (bl_ w _ hw261_2)).trans hw261_2), ((HB.out.cell (bl_ w _ hw263_0)).trans hw263_0), ((HB.out.cell (bl_ w _ hw263_1)).trans hw263_1), ((HB.out.cell (bl_ w _ hw263_2)).trans hw263_2), ((HB.out.cell (bl_ w _ hw265_0)).trans hw265_0), ((HB.out.cell (bl_ w _ hw265_1)).trans hw265_1), ((HB.out.cell (bl_ w _ hw265_2)).trans hw265_2), ((HB.out.cell (bl_ w _ hw267_0)).trans hw267_0), ((HB.out.cell (bl_ w _ hw267_1)).trans hw267_1), ((HB.out.cell (bl_ w _ hw267_2)).trans hw267_2)⟩ (fun hHeld => ?_); clear hK K; refine norm_ (a' := ?_) ?_ ?_; rotate_left
    ·
     show Act.put _ (some 22) _ = _
     simp only [Act.put, z1_, z2_, z3_, i64_w, i32_w]
     rfl
    refine one_ (i := 19) (N := some 26) (mB_ 22 1048575) rfl rfl (one_of HT_.out (by kernel_rfl)) (by decide) (fun K hK => ?_); refine goes_ Try.func36 (by kernel_rfl) rfl #[.agg #[.int .i8 ((rd_T29 l2 0).f0), .int .i8 ((rd_T29 l2 0).f1), .slice A261_2 ((rd_T29 l2 0).f2).length c261_2], .int .i64 a0, .int .i64 a1] (by rfl) rfl rfl (by (try simp only [List.map_toArray, List.map_cons, List.map_nil]); first | done | rfl | (simp only [List.length_drop, List.length_take]; rfl)) ?_
    with_reducible refine (impl_Square_at.calls k ((rd_T29 l2 0).f0) ((rd_T29 l2 0).f1) _ _ ((rd_T29 l2 0).f2) a0 a1 t268 _ ?side1 ?side2 A8.out).mono ?_
    (case side1 => repeat (first | exact (cB_ HR267_2.out HB.out) | (with_reducible refine Kd.C_alloc ?_ _) | (with_reducible refine Kd.C_drewN ?_ _) | (with_reducible refine Kd.C_drew ?_)))
    (case side2 => exact HC267_2.out)
    rintro e w17 ⟨rfl, hb⟩; refine ⟨_, rfl, ?_⟩; have n0_ := am_ (bT_ (by repeat (first | (with_reducible first | exact HB.out | apply bA_ | apply bN_ | apply bD_) | exact HB.out)) hb); clear HB; have HB := n0_; clear n0_; (try clear hb); (try clear hb2); (try clear hk); (try clear hi); refine hK.out _ _ ⟨((HB.out.cell (bl_ w _ hw261_0)).trans hw261_0), ((HB.out.cell (bl_ w _ hw261_1)).trans hw261_1), ((HB.out.cell (bl_ w _ hw261_2)).trans hw261_2), ((HB.out.cell (bl_ w _ hw263_0)).trans hw263_0), ((HB.out.cell (bl_ w _ hw263_1)).trans hw263_1), ((HB.out.cell (bl_ w _ hw263_2)).trans hw263_2), ((HB.out.cell (bl_ w _ hw265_0)).trans hw265_0), ((HB.out.cell (bl_ w _ hw265_1)).trans hw265_1), ((HB.out.cell (bl_ w _ hw265_2)).trans hw265_2), ((HB.out.cell (bl_ w _ hw267_0)).trans hw267_0), ((HB.out.cell (bl_ w _ hw267_1)).trans hw267_1), ((HB.out.cell (bl_ w _ hw267_2)).trans hw267_2)⟩ (fun hHeld => ?_); clear hK K; refine norm_ (a' := ?_) ?_ ?_; rotate_left
    ·
     show Act.put _ (some 26) _ = _
     simp only [Act.put, z1_, z2_, z3_, i64_w, i32_w]
     rfl
    refine one_ (i := 20) (N := some 27) (mB_ 22 2097151) rfl rfl (one_of HT_.out (by kernel_rfl)) (by decide) (fun K hK => ?_); refine Kd.R_lit_step (Kd.int .i64) _ 3 ?hg (N := 27) ?hd (xs := ([t262, t264, t266, t268] : List Int)) (inner := [.int .i64 t262, .int .i64 t264, .int .i64 t266, .int .i64 t268]) (ok := fun _ => True) (okp := fun _ => True) ?hr ?hp (fun _ hk => hk) trivial (Below.refl _ _) (Nat.le_refl _) (by simp) ?_; (case hd => rfl); (case hg => rfl); (case hr => first | (go_simp; done) | (go_simp; rfl)); (case hp => exact (Reps.one (show Kd.M (Kd.int .i64) _ _ _ t262 [.int .i64 t262] from rfl) (Reps.one (show Kd.M (Kd.int .i64) _ _ _ t264 [.int .i64 t264] from rfl) (Reps.one (show Kd.M (Kd.int .i64) _ _ _ t266 [.int .i64 t266] from rfl) (Reps.one (show Kd.M (Kd.int .i64) _ _ _ t268 [.int .i64 t268] from rfl) (Reps.none _ _)))))); intro v270 w18 ho19 hb hg_ hnew_; clear hg_ hnew_
    (first | rw [← Ny269.out] at ho19 | (simp only [Int.reduceToNat] at ho19; rw [← Ny269.out] at ho19))
    have n0_ := am_ (Kd.R_lower ho19 (bZ_ (by repeat (first | (with_reducible first | exact HB.out | apply bA_ | apply bN_ | apply bD_) | exact HB.out)))); have n1_ := am_ (bT_ (by repeat (first | (with_reducible first | exact HB.out | apply bA_ | apply bN_ | apply bD_) | exact HB.out)) hb); clear HB; have HO271 := n0_; have HB := n1_; clear n0_ n1_; clear hb ho19; refine hK.out _ _ ⟨((HB.out.cell (bl_ w _ hw261_0)).trans hw261_0), ((HB.out.cell (bl_ w _ hw261_1)).trans hw261_1), ((HB.out.cell (bl_ w _ hw261_2)).trans hw261_2), ((HB.out.cell (bl_ w _ hw263_0)).trans hw263_0), ((HB.out.cell (bl_ w _ hw263_1)).trans hw263_1), ((HB.out.cell (bl_ w _ hw263_2)).trans hw263_2), ((HB.out.cell (bl_ w _ hw265_0)).trans hw265_0), ((HB.out.cell (bl_ w _ hw265_1)).trans hw265_1), ((HB.out.cell (bl_ w _ hw265_2)).trans hw265_2), ((HB.out.cell (bl_ w _ hw267_0)).trans hw267_0), ((HB.out.cell (bl_ w _ hw267_1)).trans hw267_1), ((HB.out.cell (bl_ w _ hw267_2)).trans hw267_2)⟩ (fun hHeld => ?_); clear hK K; refine norm_ (a' := ?_) ?_ ?_; rotate_left
    ·
     show Act.put _ (some 27) _ = _
     simp only [Act.put, z1_, z2_, z3_, i64_w, i32_w]
     rfl
    refine pure_ (i := 21) (N := some 6) (v := ?_) (a' := ?_) (mB_ 22 4194303) rfl rfl (any_of HT_.out (by kernel_rfl)) (fun _ _ _ h => h) (Or.inl ⟨by rfl, ?_⟩) ?_ ?_; rotate_left
    ·
     intro w'
     go_simp
     with_reducible rfl
    rotate_left
    ·
     simp only [Act.put, z1_, z2_, z3_, i64_w, i32_w]
     rfl
    refine done_ (done_of HT_.out (by kernel_rfl)) ?_; obtain ⟨Ao20, co20, eo20⟩ := Kd.R_slice HO271.out; subst eo20
    try go_wp2_with (first | ((with_reducible refine gate_callee (f := 37) rfl ?_); refine goesL_ (some 29) rfl rfl Try.func37 (by kernel_rfl) rfl #[.slice Ao20 y269.length co20] rfl (by (try simp only [List.map_toArray, List.map_cons, List.map_nil]); first | done | rfl | (simp only [List.length_drop, List.length_take]; rfl)) ?_; (with_reducible refine (slices_Sort_int_int.calls (fun k_ => some k_ = (.slice Ao20 y269.length co20 : Value).ownBlock) (.slice Ao20 y269.length co20) y269 t272 w _ ?side1 ?side2 A9.out).mono ?_); (case side1 => repeat (first | (with_reducible first | exact HB.out | apply bA_ | apply bN_ | apply bD_) | exact HB.out)); (case side2 => exact Kd.R_tight rfl HO271.out); rintro e w21 ⟨rfl, hy0, hb, hkp⟩; refine ⟨_, rfl, ?_⟩; have n0_ := am_ (Kd.R_reok rfl hy0 (fun k_ e_ => HO271.out.1 k_ e_)); have n1_ := am_ (hb); clear HO271; clear HB; have HO271 := n0_; have HB := n1_; clear n0_ n1_; (try clear hb); (try clear hkp); (try clear hy0); have p273 : 0 ≤ (0 : Int) := (by omega); have q273 : 0 < (t272.length : Int) := (by have h_ : (0 : Int) < ((y269.length : Int) : Int) := od_ (by first | (with_reducible assumption) | assumption); have e_ := (Kd.R_reads' HO271.out).1; omega); have ql273 : ((0 : Int) < ((y269.length : Int) : Int)) = True := eq_true (od_ (by first | (with_reducible assumption) | assumption)); (try have qn273 : (0 < y269.length) = True := eq_true (by have h_ : (0 : Int) < ((y269.length : Int) : Int) := od_ (by first | (with_reducible assumption) | assumption); omega)); obtain ⟨ad273, e273, hx273_0⟩ := Kd.at_int (Kd.R_reads' HO271.out).2.2 0 p273 q273; cases e273; have qi273 : (0 < t272.length) = True := eq_true (by omega); (try rw [show ((0 : Int)).toNat = 0 from rfl] at hx273_0); (try rw [Addr.add_zero'] at hx273_0); replace p273 := eq_true p273; replace q273 := eq_true q273) | (go_at_call 38; (with_reducible refine (slices_Compact_int_int.calls (fun k_ => some k_ = (.slice (some ad273) y269.length co20 : Value).ownBlock) (.slice (some ad273) y269.length co20) t272 t274 w _ ?side1 ?side2 A12.out).mono ?_); (case side1 => repeat (first | (with_reducible first | exact HB.out | apply bA_ | apply bN_ | apply bD_) | exact HB.out)); (case side2 => exact Kd.R_tight rfl HO271.out); rintro e w22 ⟨v275, rfl, ho0, hb, hkp⟩; have n0_ := am_ (rM_ (ok' := fun k_ => True) ho0 (fun k_ hk_ => trivial)); have n1_ := am_ (hb); clear HB; clear HO271; have HO276 := n0_; have HB := n1_; clear n0_ n1_; (try clear hb); (try clear hkp); (try clear ho0); obtain ⟨Ao23, co23, eo23⟩ := Kd.R_slice HO276.out; subst eo23))
    go_ret
    exact ⟨by first | rfl | (simp [errW_none, errW_some] <;> rfl) | (simp [*, errW_none, errW_some] <;> rfl), by repeat (first | (with_reducible first | exact HB.out | apply bA_ | apply bN_ | apply bD_) | exact HB.out)⟩
   ·
    rw [if_neg c11] at H; have c11b0 : decide (0 ≤ (rd t272 0)) = false := decide_eq_false c11; clear c11; obtain rfl := Option.some.inj H
    go_enter Try.func35, Try.ntmps35
    try go_wp2
    have n0_ := am_ (bD_ HB.out); clear HB; have HB := n0_; clear n0_; have p261 : 0 ≤ (0 : Int) := (by omega)
    have q261 : 0 < (l2.length : Int) := od_ (by first | (with_reducible assumption) | assumption); obtain ⟨ad261, A261_2, c261_2, e261, hx261_0, hx261_1, hx261_2, hl261_2, hi261_2⟩ := at_T29 HR2.out 0 p261 q261; have hw261_2 := hx261_2; (try rw [show ((0 : Int)).toNat = 0 from rfl] at hw261_2); (try rw [show 0 * 3 = 0 from rfl] at hw261_2); (try rw [Addr.add_zero'] at hw261_2); have hw261_1 := hx261_1; (try rw [show ((0 : Int)).toNat = 0 from rfl] at hw261_1); (try rw [show 0 * 3 = 0 from rfl] at hw261_1); (try rw [Addr.add_zero'] at hw261_1); have hw261_0 := hx261_0; (try rw [show ((0 : Int)).toNat = 0 from rfl] at hw261_0); (try rw [show 0 * 3 = 0 from rfl] at hw261_0); (try rw [Addr.add_zero'] at hw261_0)
    cases e261
    have qi261 : (0 < l2.length) = True := eq_true (by omega); (try rw [show ((0 : Int)).toNat = 0 from rfl] at hx261_0); (try rw [show 0 * 3 = 0 from rfl] at hx261_0); (try rw [Addr.add_zero'] at hx261_0); (try rw [show ((0 : Int)).toNat = 0 from rfl] at hx261_1); (try rw [show 0 * 3 = 0 from rfl] at hx261_1); (try rw [Addr.add_zero'] at hx261_1); (try rw [show ((0 : Int)).toNat = 0 from rfl] at hx261_2); (try rw [show 0 * 3 = 0 from rfl] at hx261_2); (try rw [Addr.add_zero'] at hx261_2); replace hx261_0 := (HB.out.cell (bl_ w _ hx261_0)).trans hx261_0; replace hx261_1 := (HB.out.cell (bl_ w _ hx261_1)).trans hx261_1; replace hx261_2 := (HB.out.cell (bl_ w _ hx261_2)).trans hx261_2; have HR261_2 := am_ hi261_2; have HC261_2 := am_ hl261_2; clear hi261_2 hl261_2; replace p261 := eq_true p261; replace q261 := eq_true q261; have p263 : 0 ≤ (0 : Int) := (by omega)
    have q263 : 0 < (l2.length : Int) := od_ (by first | (with_reducible assumption) | assumption); obtain ⟨ad263, A263_2, c263_2, e263, hx263_0, hx263_1, hx263_2, hl263_2, hi263_2⟩ := at_T29 HR2.out 0 p263 q263; have hw263_2 := hx263_2; (try rw [show ((0 : Int)).toNat = 0 from rfl] at hw263_2); (try rw [show 0 * 3 = 0 from rfl] at hw263_2); (try rw [Addr.add_zero'] at hw263_2); have hw263_1 := hx263_1; (try rw [show ((0 : Int)).toNat = 0 from rfl] at hw263_1); (try rw [show 0 * 3 = 0 from rfl] at hw263_1); (try rw [Addr.add_zero'] at hw263_1); have hw263_0 := hx263_0; (try rw [show ((0 : Int)).toNat = 0 from rfl] at hw263_0); (try rw [show 0 * 3 = 0 from rfl] at hw263_0); (try rw [Addr.add_zero'] at hw263_0); obtain rfl : ad261 = ad263 := (by injection e263)
    have qi263 : (0 < l2.length) = True := eq_true (by omega); (try rw [show ((0 : Int)).toNat = 0 from rfl] at hx263_0); (try rw [show 0 * 3 = 0 from rfl] at hx263_0); (try rw [Addr.add_zero'] at hx263_0); (try rw [show ((0 : Int)).toNat = 0 from rfl] at hx263_1); (try rw [show 0 * 3 = 0 from rfl] at hx263_1); (try rw [Addr.add_zero'] at hx263_1); (try rw [show ((0 : Int)).toNat = 0 from rfl] at hx263_2); (try rw [show 0 * 3 = 0 from rfl] at hx263_2); (try rw [Addr.add_zero'] at hx263_2); replace hx263_0 := (HB.out.cell (bl_ w _ hx263_0)).trans hx263_0; replace hx263_1 := (HB.out.cell (bl_ w _ hx263_1)).trans hx263_1; replace hx263_2 := (HB.out.cell (bl_ w _ hx263_2)).trans hx263_2; have HR263_2 := am_ hi263_2; have HC263_2 := am_ hl263_2; clear hi263_2 hl263_2; replace p263 := eq_true p263; replace q263 := eq_true q263; have ea_ := Option.some.inj (hx261_2.symm.trans hx263_2)
    injection ea_ with ea_ en_ ec_
    subst ea_; subst ec_; clear en_; have p265 : 0 ≤ (0 : Int) := (by omega)
    have q265 : 0 < (l2.length : Int) := od_ (by first | (with_reducible assumption) | assumption); obtain ⟨ad265, A265_2, c265_2, e265, hx265_0, hx265_1, hx265_2, hl265_2, hi265_2⟩ := at_T29 HR2.out 0 p265 q265; have hw265_2 := hx265_2; (try rw [show ((0 : Int)).toNat = 0 from rfl] at hw265_2); (try rw [show 0 * 3 = 0 from rfl] at hw265_2); (try rw [Addr.add_zero'] at hw265_2); have hw265_1 := hx265_1; (try rw [show ((0 : Int)).toNat = 0 from rfl] at hw265_1); (try rw [show 0 * 3 = 0 from rfl] at hw265_1); (try rw [Addr.add_zero'] at hw265_1); have hw265_0 := hx265_0; (try rw [show ((0 : Int)).toNat = 0 from rfl] at hw265_0); (try rw [show 0 * 3 = 0 from rfl] at hw265_0); (try rw [Addr.add_zero'] at hw265_0); obtain rfl : ad261 = ad265 := (by injection e265)
    have qi265 : (0 < l2.length) = True := eq_true (by omega); (try rw [show ((0 : Int)).toNat = 0 from rfl] at hx265_0); (try rw [show 0 * 3 = 0 from rfl] at hx265_0); (try rw [Addr.add_zero'] at hx265_0); (try rw [show ((0 : Int)).toNat = 0 from rfl] at hx265_1); (try rw [show 0 * 3 = 0 from rfl] at hx265_1); (try rw [Addr.add_zero'] at hx265_1); (try rw [show ((0 : Int)).toNat = 0 from rfl] at hx265_2); (try rw [show 0 * 3 = 0 from rfl] at hx265_2); (try rw [Addr.add_zero'] at hx265_2); replace hx265_0 := (HB.out.cell (bl_ w _ hx265_0)).trans hx265_0; replace hx265_1 := (HB.out.cell (bl_ w _ hx265_1)).trans hx265_1; replace hx265_2 := (HB.out.cell (bl_ w _ hx265_2)).trans hx265_2; have HR265_2 := am_ hi265_2; have HC265_2 := am_ hl265_2; clear hi265_2 hl265_2; replace p265 := eq_true p265; replace q265 := eq_true q265; have ea_ := Option.some.inj (hx261_2.symm.trans hx265_2)
    injection ea_ with ea_ en_ ec_
    subst ea_; subst ec_; clear en_; have p267 : 0 ≤ (0 : Int) := (by omega)
    have q267 : 0 < (l2.length : Int) := od_ (by first | (with_reducible assumption) | assumption); obtain ⟨ad267, A267_2, c267_2, e267, hx267_0, hx267_1, hx267_2, hl267_2, hi267_2⟩ := at_T29 HR2.out 0 p267 q267; have hw267_2 := hx267_2; (try rw [show ((0 : Int)).toNat = 0 from rfl] at hw267_2); (try rw [show 0 * 3 = 0 from rfl] at hw267_2); (try rw [Addr.add_zero'] at hw267_2); have hw267_1 := hx267_1; (try rw [show ((0 : Int)).toNat = 0 from rfl] at hw267_1); (try rw [show 0 * 3 = 0 from rfl] at hw267_1); (try rw [Addr.add_zero'] at hw267_1); have hw267_0 := hx267_0; (try rw [show ((0 : Int)).toNat = 0 from rfl] at hw267_0); (try rw [show 0 * 3 = 0 from rfl] at hw267_0); (try rw [Addr.add_zero'] at hw267_0); obtain rfl : ad261 = ad267 := (by injection e267)
    have qi267 : (0 < l2.length) = True := eq_true (by omega); (try rw [show ((0 : Int)).toNat = 0 from rfl] at hx267_0); (try rw [show 0 * 3 = 0 from rfl] at hx267_0); (try rw [Addr.add_zero'] at hx267_0); (try rw [show ((0 : Int)).toNat = 0 from rfl] at hx267_1); (try rw [show 0 * 3 = 0 from rfl] at hx267_1); (try rw [Addr.add_zero'] at hx267_1); (try rw [show ((0 : Int)).toNat = 0 from rfl] at hx267_2); (try rw [show 0 * 3 = 0 from rfl] at hx267_2); (try rw [Addr.add_zero'] at hx267_2); replace hx267_0 := (HB.out.cell (bl_ w _ hx267_0)).trans hx267_0; replace hx267_1 := (HB.out.cell (bl_ w _ hx267_1)).trans hx267_1; replace hx267_2 := (HB.out.cell (bl_ w _ hx267_2)).trans hx267_2; have HR267_2 := am_ hi267_2; have HC267_2 := am_ hl267_2; clear hi267_2 hl267_2; replace p267 := eq_true p267; replace q267 := eq_true q267; have ea_ := Option.some.inj (hx261_2.symm.trans hx267_2)
    injection ea_ with ea_ en_ ec_
    subst ea_; subst ec_; clear en_; refine start_ (n := 22) (S := fun w' => w'.cell? ad261 = some (.int .i8 ((rd_T29 l2 0).f0)) ∧ w'.cell? ⟨ad261.block, ad261.off + 1, none⟩ = some (.int .i8 ((rd_T29 l2 0).f1)) ∧ w'.cell? ⟨ad261.block, ad261.off + 2, none⟩ = some (.slice A261_2 ((rd_T29 l2 0).f2).length c261_2) ∧ w'.cell? ad261 = some (.int .i8 ((rd_T29 l2 0).f0)) ∧ w'.cell? ⟨ad261.block, ad261.off + 1, none⟩ = some (.int .i8 ((rd_T29 l2 0).f1)) ∧ w'.cell? ⟨ad261.block, ad261.off + 2, none⟩ = some (.slice A261_2 ((rd_T29 l2 0).f2).length c261_2) ∧ w'.cell? ad261 = some (.int .i8 ((rd_T29 l2 0).f0)) ∧ w'.cell? ⟨ad261.block, ad261.off + 1, none⟩ = some (.int .i8 ((rd_T29 l2 0).f1)) ∧ w'.cell? ⟨ad261.block, ad261.off + 2, none⟩ = some (.slice A261_2 ((rd_T29 l2 0).f2).length c261_2) ∧ w'.cell? ad261 = some (.int .i8 ((rd_T29 l2 0).f0)) ∧ w'.cell? ⟨ad261.block, ad261.off + 1, none⟩ = some (.int .i8 ((rd_T29 l2 0).f1)) ∧ w'.cell? ⟨ad261.block, ad261.off + 2, none⟩ = some (.slice A261_2 ((rd_T29 l2 0).f2).length c261_2)) (ds := []) (mB_ 22 0) (by kernel_rfl) rfl rfl ⟨((HB.out.cell (bl_ w _ hw261_0)).trans hw261_0), ((HB.out.cell (bl_ w _ hw261_1)).trans hw261_1), ((HB.out.cell (bl_ w _ hw261_2)).trans hw261_2), ((HB.out.cell (bl_ w _ hw263_0)).trans hw263_0), ((HB.out.cell (bl_ w _ hw263_1)).trans hw263_1), ((HB.out.cell (bl_ w _ hw263_2)).trans hw263_2), ((HB.out.cell (bl_ w _ hw265_0)).trans hw265_0), ((HB.out.cell (bl_ w _ hw265_1)).trans hw265_1), ((HB.out.cell (bl_ w _ hw265_2)).trans hw265_2), ((HB.out.cell (bl_ w _ hw267_0)).trans hw267_0), ((HB.out.cell (bl_ w _ hw267_1)).trans hw267_1), ((HB.out.cell (bl_ w _ hw267_2)).trans hw267_2)⟩ (fun hHeld => ?_); refine with_tabW impl_CrossesIn_1.tab1 impl_CrossesIn_1.bits1 (fun HT_ HW_ => ?_); generalize w.drew = w24 at HB HR261_2 HR263_2 HR265_2 HR267_2 hx261_0 hx261_1 hx261_2 hx263_0 hx263_1 hx263_2 hx265_0 hx265_1 hx265_2 hx267_0 hx267_1 hx267_2 hHeld ⊢; refine pure_ (i := 1) (N := some 8) (v := ?_) (a' := ?_) (mB_ 22 2) rfl rfl (any_of HT_.out (by kernel_rfl)) (fun _ _ _ h => h) (Or.inl ⟨by rfl, ?_⟩) ?_ ?_; rotate_left
    ·
     intro w'
     go_simp
     with_reducible rfl
    rotate_left
    ·
     simp only [Act.put, z1_, z2_, z3_, i64_w, i32_w]
     rfl
    refine pure_ (i := 2) (N := some 9) (v := ?_) (a' := ?_) (mB_ 22 6) rfl rfl (any_of HT_.out (by kernel_rfl)) (fun _ _ _ h => h) (Or.inl ⟨by rfl, ?_⟩) ?_ ?_; rotate_left
    ·
     intro w'
     go_simp
     with_reducible rfl
    rotate_left
    ·
     simp only [Act.put, z1_, z2_, z3_, i64_w, i32_w]
     rfl
    refine pure_ (i := 3) (N := some 10) (v := ?_) (a' := ?_) (mB_ 22 14) rfl rfl (any_of HT_.out (by kernel_rfl)) (fun _ _ _ h => h) (Or.inl ⟨by rfl, ?_⟩) ?_ ?_; rotate_left
    ·
     intro w'
     go_simp
     with_reducible rfl
    rotate_left
    ·
     simp only [Act.put, z1_, z2_, z3_, i64_w, i32_w]
     rfl
    refine pure_ (i := 4) (N := some 11) (v := ?_) (a' := ?_) (mB_ 22 30) rfl rfl (any_of HT_.out (by kernel_rfl)) (fun _ _ _ h => h) (Or.inl ⟨by rfl, ?_⟩) ?_ ?_; rotate_left
    ·
     intro w'
     go_simp
     with_reducible rfl
    rotate_left
    ·
     simp only [Act.put, z1_, z2_, z3_, i64_w, i32_w]
     rfl
    refine pure_ (i := 7) (N := some 14) (v := ?_) (a' := ?_) (mB_ 22 158) rfl rfl (any_of HT_.out (by kernel_rfl)) (fun _ _ _ h => h) (Or.inl ⟨by rfl, ?_⟩) ?_ ?_; rotate_left
    ·
     intro w'
     go_simp
     with_reducible rfl
    rotate_left
    ·
     simp only [Act.put, z1_, z2_, z3_, i64_w, i32_w]
     rfl
    refine pure_ (i := 8) (N := some 15) (v := ?_) (a' := ?_) (mB_ 22 414) rfl rfl (any_of HT_.out (by kernel_rfl)) (fun _ _ _ h => h) (Or.inl ⟨by rfl, ?_⟩) ?_ ?_; rotate_left
    ·
     intro w'
     go_simp
     with_reducible rfl
    rotate_left
    ·
     simp only [Act.put, z1_, z2_, z3_, i64_w, i32_w]
     rfl
    refine pure_ (i := 9) (N := some 16) (v := ?_) (a' := ?_) (mB_ 22 926) rfl rfl (any_of HT_.out (by kernel_rfl)) (fun _ _ _ h => h) (Or.inl ⟨by rfl, ?_⟩) ?_ ?_; rotate_left
    ·
     intro w'
     go_simp
     with_reducible rfl
    rotate_left
    ·
     simp only [Act.put, z1_, z2_, z3_, i64_w, i32_w]
     rfl
    refine pure_ (i := 12) (N := some 19) (v := ?_) (a' := ?_) (mB_ 22 5022) rfl rfl (any_of HT_.out (by kernel_rfl)) (fun _ _ _ h => h) (Or.inl ⟨by rfl, ?_⟩) ?_ ?_; rotate_left
    ·
     intro w'
     go_simp
     with_reducible rfl
    rotate_left
    ·
     simp only [Act.put, z1_, z2_, z3_, i64_w, i32_w]
     rfl
    refine pure_ (i := 13) (N := some 20) (v := ?_) (a' := ?_) (mB_ 22 13214) rfl rfl (any_of HT_.out (by kernel_rfl)) (fun _ _ _ h => h) (Or.inl ⟨by rfl, ?_⟩) ?_ ?_; rotate_left
    ·
     intro w'
     go_simp
     with_reducible rfl
    rotate_left
    ·
     simp only [Act.put, z1_, z2_, z3_, i64_w, i32_w]
     rfl
    refine pure_ (i := 14) (N := some 21) (v := ?_) (a' := ?_) (mB_ 22 29598) rfl rfl (any_of HT_.out (by kernel_rfl)) (fun _ _ _ h => h) (Or.inl ⟨by rfl, ?_⟩) ?_ ?_; rotate_left
    ·
     intro w'
     go_simp
     with_reducible rfl
    rotate_left
    ·
     simp only [Act.put, z1_, z2_, z3_, i64_w, i32_w]
     rfl
    refine pure_ (i := 17) (N := some 24) (v := ?_) (a' := ?_) (mB_ 22 160670) rfl rfl (any_of HT_.out (by kernel_rfl)) (fun _ _ _ h => h) (Or.inl ⟨by rfl, ?_⟩) ?_ ?_; rotate_left
    ·
     intro w'
     go_simp
     with_reducible rfl
    rotate_left
    ·
     simp only [Act.put, z1_, z2_, z3_, i64_w, i32_w]
     rfl
    refine pure_ (i := 18) (N := some 25) (v := ?_) (a' := ?_) (mB_ 22 422814) rfl rfl (any_of HT_.out (by kernel_rfl)) (fun _ _ _ h => h) (Or.inl ⟨by rfl, ?_⟩) ?_ ?_; rotate_left
    ·
     intro w'
     go_simp
     with_reducible rfl
    rotate_left
    ·
     simp only [Act.put, z1_, z2_, z3_, i64_w, i32_w]
     rfl
    refine take_ (i := 0) (N := some 7) (v := ?_) (a' := ?_) (mB_ 22 422815) rfl rfl (take_ofW HT_.out HW_.out (by kernel_rfl)) (fun _ _ _ h => h) (Or.inl ⟨by rfl, ?_⟩) hHeld ?_ ?_; rotate_left
    ·
     rintro w' ⟨s0, s1, s2, s3, s4, s5, s6, s7, s8, s9, s10, s11⟩
     go_simp
     with_reducible rfl
    rotate_left
    ·
     simp only [Act.put, z1_, z2_, z3_, i64_w, i32_w]
     rfl
    refine take_ (i := 6) (N := some 13) (v := ?_) (a' := ?_) (mB_ 22 422879) rfl rfl (take_ofW HT_.out HW_.out (by kernel_rfl)) (fun _ _ _ h => h) (Or.inl ⟨by rfl, ?_⟩) hHeld ?_ ?_; rotate_left
    ·
     rintro w' ⟨s0, s1, s2, s3, s4, s5, s6, s7, s8, s9, s10, s11⟩
     go_simp
     with_reducible rfl
    rotate_left
    ·
     simp only [Act.put, z1_, z2_, z3_, i64_w, i32_w]
     rfl
    refine take_ (i := 11) (N := some 18) (v := ?_) (a' := ?_) (mB_ 22 424927) rfl rfl (take_ofW HT_.out HW_.out (by kernel_rfl)) (fun _ _ _ h => h) (Or.inl ⟨by rfl, ?_⟩) hHeld ?_ ?_; rotate_left
    ·
     rintro w' ⟨s0, s1, s2, s3, s4, s5, s6, s7, s8, s9, s10, s11⟩
     go_simp
     with_reducible rfl
    rotate_left
    ·
     simp only [Act.put, z1_, z2_, z3_, i64_w, i32_w]
     rfl
    refine take_ (i := 16) (N := some 23) (v := ?_) (a' := ?_) (mB_ 22 490463) rfl rfl (take_ofW HT_.out HW_.out (by kernel_rfl)) (fun _ _ _ h => h) (Or.inl ⟨by rfl, ?_⟩) hHeld ?_ ?_; rotate_left
    ·
     rintro w' ⟨s0, s1, s2, s3, s4, s5, s6, s7, s8, s9, s10, s11⟩
     go_simp
     with_reducible rfl
    rotate_left
    ·
     simp only [Act.put, z1_, z2_, z3_, i64_w, i32_w]
     rfl
    refine one_ (i := 5) (N := some 12) (mB_ 22 490495) rfl rfl (one_of HT_.out (by kernel_rfl)) (by decide) (fun K hK => ?_); refine goes_ Try.func36 (by kernel_rfl) rfl #[.agg #[.int .i8 ((rd_T29 l2 0).f0), .int .i8 ((rd_T29 l2 0).f1), .slice A261_2 ((rd_T29 l2 0).f2).length c261_2], .int .i64 (wrap64 (a0 - 1)), .int .i64 (wrap64 (a1 - 1))] (by rfl) rfl rfl (by (try simp only [List.map_toArray, List.map_cons, List.map_nil]); first | done | rfl | (simp only [List.length_drop, List.length_take]; rfl)) ?_
    with_reducible refine (impl_Square_at.calls k ((rd_T29 l2 0).f0) ((rd_T29 l2 0).f1) _ _ ((rd_T29 l2 0).f2) (wrap64 (a0 - 1)) (wrap64 (a1 - 1)) t262 _ ?side1 ?side2 A5.out).mono ?_
    (case side1 => repeat (first | exact (cB_ HR261_2.out HB.out) | (with_reducible refine Kd.C_alloc ?_ _) | (with_reducible refine Kd.C_drewN ?_ _) | (with_reducible refine Kd.C_drew ?_)))
    (case side2 => exact HC261_2.out)
    rintro e w25 ⟨rfl, hb⟩; refine ⟨_, rfl, ?_⟩; have n0_ := am_ (bT_ (by repeat (first | (with_reducible first | exact HB.out | apply bA_ | apply bN_ | apply bD_) | exact HB.out)) hb); clear HB; have HB := n0_; clear n0_; (try clear hb); (try clear hb2); (try clear hk); (try clear hi); refine hK.out _ _ ⟨((HB.out.cell (bl_ w _ hw261_0)).trans hw261_0), ((HB.out.cell (bl_ w _ hw261_1)).trans hw261_1), ((HB.out.cell (bl_ w _ hw261_2)).trans hw261_2), ((HB.out.cell (bl_ w _ hw263_0)).trans hw263_0), ((HB.out.cell (bl_ w _ hw263_1)).trans hw263_1), ((HB.out.cell (bl_ w _ hw263_2)).trans hw263_2), ((HB.out.cell (bl_ w _ hw265_0)).trans hw265_0), ((HB.out.cell (bl_ w _ hw265_1)).trans hw265_1), ((HB.out.cell (bl_ w _ hw265_2)).trans hw265_2), ((HB.out.cell (bl_ w _ hw267_0)).trans hw267_0), ((HB.out.cell (bl_ w _ hw267_1)).trans hw267_1), ((HB.out.cell (bl_ w _ hw267_2)).trans hw267_2)⟩ (fun hHeld => ?_); clear hK K; refine norm_ (a' := ?_) ?_ ?_; rotate_left
    ·
     show Act.put _ (some 12) _ = _
     simp only [Act.put, z1_, z2_, z3_, i64_w, i32_w]
     rfl
    refine one_ (i := 10) (N := some 17) (mB_ 22 491519) rfl rfl (one_of HT_.out (by kernel_rfl)) (by decide) (fun K hK => ?_); refine goes_ Try.func36 (by kernel_rfl) rfl #[.agg #[.int .i8 ((rd_T29 l2 0).f0), .int .i8 ((rd_T29 l2 0).f1), .slice A261_2 ((rd_T29 l2 0).f2).length c261_2], .int .i64 a0, .int .i64 (wrap64 (a1 - 1))] (by rfl) rfl rfl (by (try simp only [List.map_toArray, List.map_cons, List.map_nil]); first | done | rfl | (simp only [List.length_drop, List.length_take]; rfl)) ?_
    with_reducible refine (impl_Square_at.calls k ((rd_T29 l2 0).f0) ((rd_T29 l2 0).f1) _ _ ((rd_T29 l2 0).f2) a0 (wrap64 (a1 - 1)) t264 _ ?side1 ?side2 A6.out).mono ?_
    (case side1 => repeat (first | exact (cB_ HR263_2.out HB.out) | (with_reducible refine Kd.C_alloc ?_ _) | (with_reducible refine Kd.C_drewN ?_ _) | (with_reducible refine Kd.C_drew ?_)))
    (case side2 => exact HC263_2.out)
    rintro e w26 ⟨rfl, hb⟩; refine ⟨_, rfl, ?_⟩; have n0_ := am_ (bT_ (by repeat (first | (with_reducible first | exact HB.out | apply bA_ | apply bN_ | apply bD_) | exact HB.out)) hb); clear HB; have HB := n0_; clear n0_; (try clear hb); (try clear hb2); (try clear hk); (try clear hi); refine hK.out _ _ ⟨((HB.out.cell (bl_ w _ hw261_0)).trans hw261_0), ((HB.out.cell (bl_ w _ hw261_1)).trans hw261_1), ((HB.out.cell (bl_ w _ hw261_2)).trans hw261_2), ((HB.out.cell (bl_ w _ hw263_0)).trans hw263_0), ((HB.out.cell (bl_ w _ hw263_1)).trans hw263_1), ((HB.out.cell (bl_ w _ hw263_2)).trans hw263_2), ((HB.out.cell (bl_ w _ hw265_0)).trans hw265_0), ((HB.out.cell (bl_ w _ hw265_1)).trans hw265_1), ((HB.out.cell (bl_ w _ hw265_2)).trans hw265_2), ((HB.out.cell (bl_ w _ hw267_0)).trans hw267_0), ((HB.out.cell (bl_ w _ hw267_1)).trans hw267_1), ((HB.out.cell (bl_ w _ hw267_2)).trans hw267_2)⟩ (fun hHeld => ?_); clear hK K; refine norm_ (a' := ?_) ?_ ?_; rotate_left
    ·
     show Act.put _ (some 17) _ = _
     simp only [Act.put, z1_, z2_, z3_, i64_w, i32_w]
     rfl
    refine one_ (i := 15) (N := some 22) (mB_ 22 524287) rfl rfl (one_of HT_.out (by kernel_rfl)) (by decide) (fun K hK => ?_); refine goes_ Try.func36 (by kernel_rfl) rfl #[.agg #[.int .i8 ((rd_T29 l2 0).f0), .int .i8 ((rd_T29 l2 0).f1), .slice A261_2 ((rd_T29 l2 0).f2).length c261_2], .int .i64 (wrap64 (a0 - 1)), .int .i64 a1] (by rfl) rfl rfl (by (try simp only [List.map_toArray, List.map_cons, List.map_nil]); first | done | rfl | (simp only [List.length_drop, List.length_take]; rfl)) ?_
    with_reducible refine (impl_Square_at.calls k ((rd_T29 l2 0).f0) ((rd_T29 l2 0).f1) _ _ ((rd_T29 l2 0).f2) (wrap64 (a0 - 1)) a1 t266 _ ?side1 ?side2 A7.out).mono ?_
    (case side1 => repeat (first | exact (cB_ HR265_2.out HB.out) | (with_reducible refine Kd.C_alloc ?_ _) | (with_reducible refine Kd.C_drewN ?_ _) | (with_reducible refine Kd.C_drew ?_)))
    (case side2 => exact HC265_2.out)
    rintro e w27 ⟨rfl, hb⟩; refine ⟨_, rfl, ?_⟩; have n0_ := am_ (bT_ (by repeat (first | (with_reducible first | exact HB.out | apply bA_ | apply bN_ | apply bD_) | exact HB.out)) hb); clear HB; have HB := n0_; clear n0_; (try clear hb); (try clear hb2); (try clear hk); (try clear hi); refine hK.out _ _ ⟨((HB.out.cell (bl_ w _ hw261_0)).trans hw261_0), ((HB.out.cell (bl_ w _ hw261_1)).trans hw261_1), ((HB.out.cell (bl_ w _ hw261_2)).trans hw261_2), ((HB.out.cell (bl_ w _ hw263_0)).trans hw263_0), ((HB.out.cell (bl_ w _ hw263_1)).trans hw263_1), ((HB.out.cell (bl_ w _ hw263_2)).trans hw263_2), ((HB.out.cell (bl_ w _ hw265_0)).trans hw265_0), ((HB.out.cell (bl_ w _ hw265_1)).trans hw265_1), ((HB.out.cell (bl_ w _ hw265_2)).trans hw265_2), ((HB.out.cell (bl_ w _ hw267_0)).trans hw267_0), ((HB.out.cell (bl_ w _ hw267_1)).trans hw267_1), ((HB.out.cell (bl_ w _ hw267_2)).trans hw267_2)⟩ (fun hHeld => ?_); clear hK K; refine norm_ (a' := ?_) ?_ ?_; rotate_left
    ·
     show Act.put _ (some 22) _ = _
     simp only [Act.put, z1_, z2_, z3_, i64_w, i32_w]
     rfl
    refine one_ (i := 19) (N := some 26) (mB_ 22 1048575) rfl rfl (one_of HT_.out (by kernel_rfl)) (by decide) (fun K hK => ?_); refine goes_ Try.func36 (by kernel_rfl) rfl #[.agg #[.int .i8 ((rd_T29 l2 0).f0), .int .i8 ((rd_T29 l2 0).f1), .slice A261_2 ((rd_T29 l2 0).f2).length c261_2], .int .i64 a0, .int .i64 a1] (by rfl) rfl rfl (by (try simp only [List.map_toArray, List.map_cons, List.map_nil]); first | done | rfl | (simp only [List.length_drop, List.length_take]; rfl)) ?_
    with_reducible refine (impl_Square_at.calls k ((rd_T29 l2 0).f0) ((rd_T29 l2 0).f1) _ _ ((rd_T29 l2 0).f2) a0 a1 t268 _ ?side1 ?side2 A8.out).mono ?_
    (case side1 => repeat (first | exact (cB_ HR267_2.out HB.out) | (with_reducible refine Kd.C_alloc ?_ _) | (with_reducible refine Kd.C_drewN ?_ _) | (with_reducible refine Kd.C_drew ?_)))
    (case side2 => exact HC267_2.out)
    rintro e w28 ⟨rfl, hb⟩; refine ⟨_, rfl, ?_⟩; have n0_ := am_ (bT_ (by repeat (first | (with_reducible first | exact HB.out | apply bA_ | apply bN_ | apply bD_) | exact HB.out)) hb); clear HB; have HB := n0_; clear n0_; (try clear hb); (try clear hb2); (try clear hk); (try clear hi); refine hK.out _ _ ⟨((HB.out.cell (bl_ w _ hw261_0)).trans hw261_0), ((HB.out.cell (bl_ w _ hw261_1)).trans hw261_1), ((HB.out.cell (bl_ w _ hw261_2)).trans hw261_2), ((HB.out.cell (bl_ w _ hw263_0)).trans hw263_0), ((HB.out.cell (bl_ w _ hw263_1)).trans hw263_1), ((HB.out.cell (bl_ w _ hw263_2)).trans hw263_2), ((HB.out.cell (bl_ w _ hw265_0)).trans hw265_0), ((HB.out.cell (bl_ w _ hw265_1)).trans hw265_1), ((HB.out.cell (bl_ w _ hw265_2)).trans hw265_2), ((HB.out.cell (bl_ w _ hw267_0)).trans hw267_0), ((HB.out.cell (bl_ w _ hw267_1)).trans hw267_1), ((HB.out.cell (bl_ w _ hw267_2)).trans hw267_2)⟩ (fun hHeld => ?_); clear hK K; refine norm_ (a' := ?_) ?_ ?_; rotate_left
    ·
     show Act.put _ (some 26) _ = _
     simp only [Act.put, z1_, z2_, z3_, i64_w, i32_w]
     rfl
    refine one_ (i := 20) (N := some 27) (mB_ 22 2097151) rfl rfl (one_of HT_.out (by kernel_rfl)) (by decide) (fun K hK => ?_); refine Kd.R_lit_step (Kd.int .i64) _ 3 ?hg (N := 27) ?hd (xs := ([t262, t264, t266, t268] : List Int)) (inner := [.int .i64 t262, .int .i64 t264, .int .i64 t266, .int .i64 t268]) (ok := fun _ => True) (okp := fun _ => True) ?hr ?hp (fun _ hk => hk) trivial (Below.refl _ _) (Nat.le_refl _) (by simp) ?_; (case hd => rfl); (case hg => rfl); (case hr => first | (go_simp; done) | (go_simp; rfl)); (case hp => exact (Reps.one (show Kd.M (Kd.int .i64) _ _ _ t262 [.int .i64 t262] from rfl) (Reps.one (show Kd.M (Kd.int .i64) _ _ _ t264 [.int .i64 t264] from rfl) (Reps.one (show Kd.M (Kd.int .i64) _ _ _ t266 [.int .i64 t266] from rfl) (Reps.one (show Kd.M (Kd.int .i64) _ _ _ t268 [.int .i64 t268] from rfl) (Reps.none _ _)))))); intro v270 w29 ho30 hb hg_ hnew_; clear hg_ hnew_
    (first | rw [← Ny269.out] at ho30 | (simp only [Int.reduceToNat] at ho30; rw [← Ny269.out] at ho30))
    have n0_ := am_ (Kd.R_lower ho30 (bZ_ (by repeat (first | (with_reducible first | exact HB.out | apply bA_ | apply bN_ | apply bD_) | exact HB.out)))); have n1_ := am_ (bT_ (by repeat (first | (with_reducible first | exact HB.out | apply bA_ | apply bN_ | apply bD_) | exact HB.out)) hb); clear HB; have HO271 := n0_; have HB := n1_; clear n0_ n1_; clear hb ho30; refine hK.out _ _ ⟨((HB.out.cell (bl_ w _ hw261_0)).trans hw261_0), ((HB.out.cell (bl_ w _ hw261_1)).trans hw261_1), ((HB.out.cell (bl_ w _ hw261_2)).trans hw261_2), ((HB.out.cell (bl_ w _ hw263_0)).trans hw263_0), ((HB.out.cell (bl_ w _ hw263_1)).trans hw263_1), ((HB.out.cell (bl_ w _ hw263_2)).trans hw263_2), ((HB.out.cell (bl_ w _ hw265_0)).trans hw265_0), ((HB.out.cell (bl_ w _ hw265_1)).trans hw265_1), ((HB.out.cell (bl_ w _ hw265_2)).trans hw265_2), ((HB.out.cell (bl_ w _ hw267_0)).trans hw267_0), ((HB.out.cell (bl_ w _ hw267_1)).trans hw267_1), ((HB.out.cell (bl_ w _ hw267_2)).trans hw267_2)⟩ (fun hHeld => ?_); clear hK K; refine norm_ (a' := ?_) ?_ ?_; rotate_left
    ·
     show Act.put _ (some 27) _ = _
     simp only [Act.put, z1_, z2_, z3_, i64_w, i32_w]
     rfl
    refine pure_ (i := 21) (N := some 6) (v := ?_) (a' := ?_) (mB_ 22 4194303) rfl rfl (any_of HT_.out (by kernel_rfl)) (fun _ _ _ h => h) (Or.inl ⟨by rfl, ?_⟩) ?_ ?_; rotate_left
    ·
     intro w'
     go_simp
     with_reducible rfl
    rotate_left
    ·
     simp only [Act.put, z1_, z2_, z3_, i64_w, i32_w]
     rfl
    refine done_ (done_of HT_.out (by kernel_rfl)) ?_; obtain ⟨Ao31, co31, eo31⟩ := Kd.R_slice HO271.out; subst eo31
    try go_wp2_with (first | ((with_reducible refine gate_callee (f := 37) rfl ?_); refine goesL_ (some 29) rfl rfl Try.func37 (by kernel_rfl) rfl #[.slice Ao31 y269.length co31] rfl (by (try simp only [List.map_toArray, List.map_cons, List.map_nil]); first | done | rfl | (simp only [List.length_drop, List.length_take]; rfl)) ?_; (with_reducible refine (slices_Sort_int_int.calls (fun k_ => some k_ = (.slice Ao31 y269.length co31 : Value).ownBlock) (.slice Ao31 y269.length co31) y269 t272 w _ ?side1 ?side2 A9.out).mono ?_); (case side1 => repeat (first | (with_reducible first | exact HB.out | apply bA_ | apply bN_ | apply bD_) | exact HB.out)); (case side2 => exact Kd.R_tight rfl HO271.out); rintro e w32 ⟨rfl, hy0, hb, hkp⟩; refine ⟨_, rfl, ?_⟩; have n0_ := am_ (Kd.R_reok rfl hy0 (fun k_ e_ => HO271.out.1 k_ e_)); have n1_ := am_ (hb); clear HO271; clear HB; have HO271 := n0_; have HB := n1_; clear n0_ n1_; (try clear hb); (try clear hkp); (try clear hy0); have p273 : 0 ≤ (0 : Int) := (by omega); have q273 : 0 < (t272.length : Int) := (by have h_ : (0 : Int) < ((y269.length : Int) : Int) := od_ (by first | (with_reducible assumption) | assumption); have e_ := (Kd.R_reads' HO271.out).1; omega); have ql273 : ((0 : Int) < ((y269.length : Int) : Int)) = True := eq_true (od_ (by first | (with_reducible assumption) | assumption)); (try have qn273 : (0 < y269.length) = True := eq_true (by have h_ : (0 : Int) < ((y269.length : Int) : Int) := od_ (by first | (with_reducible assumption) | assumption); omega)); obtain ⟨ad273, e273, hx273_0⟩ := Kd.at_int (Kd.R_reads' HO271.out).2.2 0 p273 q273; cases e273; have qi273 : (0 < t272.length) = True := eq_true (by omega); (try rw [show ((0 : Int)).toNat = 0 from rfl] at hx273_0); (try rw [Addr.add_zero'] at hx273_0); replace p273 := eq_true p273; replace q273 := eq_true q273))
    go_ret
    exact ⟨by first | rfl | (simp [errW_none, errW_some] <;> rfl) | (simp [*, errW_none, errW_some] <;> rfl), by repeat (first | (with_reducible first | exact HB.out | apply bA_ | apply bN_ | apply bD_) | exact HB.out)⟩
  ·
   rw [if_neg c10] at H; exact absurd H (by simp)
 ·
  rw [if_neg c4] at H; exact absurd H (by simp)
end Go.Proofs.Ytgpfjmkmopjfbaa.Q
