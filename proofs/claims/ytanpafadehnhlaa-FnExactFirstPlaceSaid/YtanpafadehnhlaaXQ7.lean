-- By a program of this session's: of the print's words what this claim needs. Lean checks it.
import Derived.Test.YtanpafadehnhlaaXQ0
namespace Go.Proofs.Ytanpafadehnhlaa.Q
open Go.RowKit Go.Proofs.YtanpafadehnhlaaW.PrintWords Go.Proofs.YtanpafadehnhlaaW.PrintLast Go.Proofs.YtanpafadehnhlaaW.PrintMore
attribute [local go_sem] max2_int min2_int max_two min_two max_three min_three max_four min_four
set_option linter.unusedVariables false
set_option linter.unusedSimpArgs false
mutual
def spec_l01All.l0 : Nat → List (S30) → List (S46) → Int → Option ((List (S46)))
 | 0, _, _, _ => none
 | k + 1, x0, x3, x4 => if 0 < (x0.length : Int) then (if x4 < ((rd_T30 x0 0).f1) then (spec_l01All.l1 k x0 x3 x4 0) else (some x3)) else (none)
def spec_l01All.l1 : Nat → List (S30) → List (S46) → Int → Int → Option ((List (S46)))
 | 0, _, _, _, _ => none
 | k + 1, x0, x3, x4, x5 => if 0 < (x0.length : Int) then (if x5 < ((rd_T30 x0 0).f0) then (if x3.length < 70368744177664 then (spec_l01All.l1 k x0 (x3 ++ [(⟨x5, x4⟩ : S46)]) x4 (IntKind.i8.wrap (x5 + 1))) else (none)) else (spec_l01All.l0 k x0 x3 (IntKind.i8.wrap (x4 + 1)))) else (none)
end
def spec_l01All.f (k : Nat) (l0 : List (S30)) : Option ((List (S46))) := spec_l01All.l0 k l0 (([] : List (S46))) 0
theorem spec_l01All.mono_l : ∀ k, (∀ y0 y1 y2, LeO (spec_l01All.l0 k y0 y1 y2) (spec_l01All.l0 (k + 1) y0 y1 y2)) ∧ (∀ y0 y1 y2 y3, LeO (spec_l01All.l1 k y0 y1 y2 y3) (spec_l01All.l1 (k + 1) y0 y1 y2 y3))
 | 0 => ⟨fun _ _ _ r h => by simp [spec_l01All.l0] at h, fun _ _ _ _ r h => by simp [spec_l01All.l1] at h⟩
 | k + 1 => by
  obtain ⟨ih0, ih1⟩ := spec_l01All.mono_l k; refine ⟨?_, ?_⟩
  ·
   intro y0 y1 y2
   unfold spec_l01All.l0
   repeat' first
   | (with_reducible exact ih0 _ _ _)
   | (with_reducible exact ih1 _ _ _ _)
   | (with_reducible exact LeO.refl _)
   | (with_reducible exact LeO.none _)
   | (with_reducible refine LeO.ite ?_ ?_)
   | (with_reducible refine LeO.bind ?_ (fun _ => ?_))
   | exact ih0 _ _ _
   | exact ih1 _ _ _ _
   | exact LeO.none _
   | refine LeO.ite ?_ ?_
   | refine LeO.bind ?_ (fun _ => ?_)
  ·
   intro y0 y1 y2 y3
   unfold spec_l01All.l1
   repeat' first
   | (with_reducible exact ih0 _ _ _)
   | (with_reducible exact ih1 _ _ _ _)
   | (with_reducible exact LeO.refl _)
   | (with_reducible exact LeO.none _)
   | (with_reducible refine LeO.ite ?_ ?_)
   | (with_reducible refine LeO.bind ?_ (fun _ => ?_))
   | exact ih0 _ _ _
   | exact ih1 _ _ _ _
   | exact LeO.none _
   | refine LeO.ite ?_ ?_
   | refine LeO.bind ?_ (fun _ => ?_)
theorem spec_l01All.mono : ∀ a0 k, LeO (spec_l01All.f k a0) (spec_l01All.f (k + 1) a0) := by
 intro a0 k; obtain ⟨ih0, ih1⟩ := spec_l01All.mono_l k
 unfold spec_l01All.f
 repeat' first
   | (with_reducible exact ih0 _ _ _)
   | (with_reducible exact ih1 _ _ _ _)
   | (with_reducible exact LeO.refl _)
   | (with_reducible exact LeO.none _)
   | (with_reducible refine LeO.ite ?_ ?_)
   | (with_reducible refine LeO.bind ?_ (fun _ => ?_))
   | exact ih0 _ _ _
   | exact ih1 _ _ _ _
   | exact LeO.none _
   | refine LeO.ite ?_ ?_
   | refine LeO.bind ?_ (fun _ => ?_)
set_option maxHeartbeats 8000000 in
set_option maxRecDepth 100000 in
theorem spec_l01All.calls (k : Nat) (A0 : Option Addr) (c0 : Nat) (l0 : List (S30)) (r : List (S46)) (w : World) (hr0 : Kd.C k30 w A0 l0.length l0) (hc0 : l0.length ≤ c0) (h : spec_l01All.f k l0 = some r) :
  Calls Try.prog 70 #[.pointer A0] w fun e w' => ∃ v0_ : Value, e = .returned (v0_) ∧ Kd.R k46 46 w' w.heap.size (fun _ => True) v0_ r ∧ Below w.heap.size w w' := by
 have hu46 := Try.underlying46; have HR0 := am_ hr0; have HC0 := am_ hc0; clear hr0 hc0; have HB := am_ (Below.refl w.heap.size w); have H : (spec_l01All.l0 k l0 (([] : List (S46))) 0) = some r := h; clear h; obtain ⟨y168, hy168⟩ : ∃ y_ : List (S46), y_ = (([] : List (S46))) := ⟨_, rfl⟩
 replace H : (spec_l01All.l0 k l0 y168 0) = some r := by first | (rw [hy168]; with_reducible exact H) | (have H2_ := (Option.bind_some _ _).symm.trans H; rw [hy168]; with_reducible exact H2_) | (have H2_ := (Option.bind_some _ _).symm.trans H; with_reducible exact H2_) | with_reducible exact H | (rw [hy168]; exact H) | exact H
 have Ny168 := am_ hy168; clear hy168; have H' := am_ H; clear H
 go_enter Try.func70, Try.ntmps70
 go_wp2_with (first | ((with_reducible refine gate_dst (N := 6) rfl ?_); refine Kd.R_lit k46 _ 46 ?hg (N := 6) ?hd (xs := ([] : List (S46))) (inner := []) (ok := fun _ => True) (okp := fun _ => True) ?hr ?hp (fun _ hk => hk) trivial (Below.refl _ _) (Nat.le_refl _) (by simp) ?_; (case hd => rfl); (case hg => rfl); (case hr => first | (go_simp; done) | (go_simp; rfl)); (case hp => exact (Reps.none _ _)); intro v169 w2 ho3 hb hg_ hnew_; clear hg_ hnew_; (first | rw [← Ny168.out] at ho3 | (simp only [Int.reduceToNat] at ho3; rw [← Ny168.out] at ho3)); have n0_ := am_ (Kd.R_lower ho3 (below_size (by repeat (first | (with_reducible first | exact HB.out | apply bA_ | apply bN_ | apply bD_) | exact HB.out)))); have n1_ := am_ (bT_ (by repeat (first | (with_reducible first | exact HB.out | apply bA_ | apply bN_ | apply bD_) | exact HB.out)) hb); clear HB; have HO170 := n0_; have HB := n1_; clear n0_ n1_; clear hb ho3))
 go_loopg [3, 4] k (fun kq v3 v4 w' => ∃ (x3_1 : List (S46)) (x4_1 : Int), v4 = .int .i8 x4_1 ∧ Aside0 (spec_l01All.l0 kq l0 x3_1 x4_1 = some r) ∧ Aside0 (kq ≤ k) ∧ Aside0 (Kd.R k46 46 w' w.heap.size (fun _ => True) v3 x3_1) ∧ Aside0 (Below w.heap.size w w'))
 case atStart => exact ⟨(y168), (0), (by first | rfl | (simp; done) | (simp [*]; done)), H', ⟨Nat.le_refl _⟩, ⟨by (with_reducible repeat (first | apply Kd.R_alloc | apply Kd.R_drewN | apply Kd.R_drew)); exact HO170.out⟩, ⟨by repeat (first | (with_reducible first | exact HB.out | apply bA_ | apply bN_ | apply bD_) | exact HB.out)⟩⟩
 case round =>
  clear H'; (try clear p2); obtain ⟨x3_1, x4_1, rfl, HA, HK1, HO_3, HB⟩ := hrel
  cases gk with
  | zero => exact absurd HA.out (by simp [spec_l01All.l0])
  | succ k1 =>
   have H := HA.out; clear HA; simp only [spec_l01All.l0] at H
   by_cases c4 : 0 < (l0.length : Int)
   ·
    rw [if_pos c4] at H; have c4b0 : decide (0 < (l0.length : Int)) = true := decide_eq_true c4; have c4b1 : decide (0 < l0.length) = true := decide_eq_true (by omega); clear c4
    by_cases c5 : x4_1 < ((rd_T30 l0 0).f1)
    ·
     rw [if_pos c5] at H; have c5b0 : decide (x4_1 < ((rd_T30 l0 0).f1)) = true := decide_eq_true c5; clear c5; have H' := am_ H; clear H; have p171 : 0 ≤ (0 : Int) := (by omega)
     have q171 : 0 < (l0.length : Int) := od_ (by first | (with_reducible assumption) | assumption); obtain ⟨ad171, A171_2, c171_2, e171, hx171_0, hx171_1, hx171_2, hl171_2, hi171_2⟩ := at_T30 HR0.out 0 p171 q171
     cases e171
     have qi171 : (0 < l0.length) = True := eq_true (by omega); (try rw [show ((0 : Int)).toNat = 0 from rfl] at hx171_0); (try rw [show 0 * 3 = 0 from rfl] at hx171_0); (try rw [Addr.add_zero'] at hx171_0); (try rw [show ((0 : Int)).toNat = 0 from rfl] at hx171_1); (try rw [show 0 * 3 = 0 from rfl] at hx171_1); (try rw [Addr.add_zero'] at hx171_1); (try rw [show ((0 : Int)).toNat = 0 from rfl] at hx171_2); (try rw [show 0 * 3 = 0 from rfl] at hx171_2); (try rw [Addr.add_zero'] at hx171_2); replace hx171_0 := (HB.out.cell (bl_ w _ hx171_0)).trans hx171_0; replace hx171_1 := (HB.out.cell (bl_ w _ hx171_1)).trans hx171_1; replace hx171_2 := (HB.out.cell (bl_ w _ hx171_2)).trans hx171_2; have HR171_2 := am_ hi171_2; have HC171_2 := am_ hl171_2; clear hi171_2 hl171_2; replace p171 := eq_true p171; replace q171 := eq_true q171; have p172 : 0 ≤ (0 : Int) := (by omega)
     have q172 : 0 < (l0.length : Int) := od_ (by first | (with_reducible assumption) | assumption); obtain ⟨ad172, A172_2, c172_2, e172, hx172_0, hx172_1, hx172_2, hl172_2, hi172_2⟩ := at_T30 HR0.out 0 p172 q172; obtain rfl : ad171 = ad172 := (by injection e172)
     have qi172 : (0 < l0.length) = True := eq_true (by omega); (try rw [show ((0 : Int)).toNat = 0 from rfl] at hx172_0); (try rw [show 0 * 3 = 0 from rfl] at hx172_0); (try rw [Addr.add_zero'] at hx172_0); (try rw [show ((0 : Int)).toNat = 0 from rfl] at hx172_1); (try rw [show 0 * 3 = 0 from rfl] at hx172_1); (try rw [Addr.add_zero'] at hx172_1); (try rw [show ((0 : Int)).toNat = 0 from rfl] at hx172_2); (try rw [show 0 * 3 = 0 from rfl] at hx172_2); (try rw [Addr.add_zero'] at hx172_2); replace hx172_0 := (HB.out.cell (bl_ w _ hx172_0)).trans hx172_0; replace hx172_1 := (HB.out.cell (bl_ w _ hx172_1)).trans hx172_1; replace hx172_2 := (HB.out.cell (bl_ w _ hx172_2)).trans hx172_2; have HR172_2 := am_ hi172_2; have HC172_2 := am_ hl172_2; clear hi172_2 hl172_2; replace p172 := eq_true p172; replace q172 := eq_true q172; have ea_ := Option.some.inj (hx171_2.symm.trans hx172_2)
     injection ea_ with ea_ en_ ec_
     subst ea_; subst ec_; clear en_
     go_wp2
     go_loopg [3, 5] k1 (fun kq v3 v5 w' => ∃ (x3_2 : List (S46)) (x5_2 : Int), v5 = .int .i8 x5_2 ∧ Aside0 (spec_l01All.l1 kq l0 x3_2 x4_1 x5_2 = some r) ∧ Aside0 (kq ≤ k1) ∧ Aside0 (Kd.R k46 46 w' w.heap.size (fun _ => True) v3 x3_2) ∧ Aside0 (Below w.heap.size w w'))
     case atStart => exact ⟨(x3_1), (0), (by first | rfl | (simp; done) | (simp [*]; done)), H', ⟨Nat.le_refl _⟩, ⟨by (with_reducible repeat (first | apply Kd.R_alloc | apply Kd.R_drewN | apply Kd.R_drew)); exact HO_3.out⟩, ⟨by repeat (first | (with_reducible first | exact HB.out | apply bA_ | apply bN_ | apply bD_) | exact HB.out)⟩⟩
     case round =>
      clear H'; (try clear c1); (try clear p1); (try clear q1); (try clear hx1); (try clear qi1); (try clear p2); (try clear c4); (try clear c4b0); (try clear c4b1); (try clear c5); (try clear c5b0); (try clear hx171_0); (try clear hx171_1); (try clear hx171_2); (try clear hx172_0); (try clear hx172_1); (try clear hx172_2); (try clear p171); (try clear p172); (try clear p2); (try clear q171); (try clear q172); obtain ⟨x3_2, x5_2, rfl, HA, HK2, HO_3, HB⟩ := hrel
      cases gk with
      | zero => exact absurd HA.out (by simp [spec_l01All.l1])
      | succ k2 =>
       have H := HA.out; clear HA; simp only [spec_l01All.l1] at H
       by_cases c6 : 0 < (l0.length : Int)
       ·
        rw [if_pos c6] at H; have c6b0 : decide (0 < (l0.length : Int)) = true := decide_eq_true c6; have c6b1 : decide (0 < l0.length) = true := decide_eq_true (by omega); clear c6
        by_cases c7 : x5_2 < ((rd_T30 l0 0).f0)
        ·
         rw [if_pos c7] at H; have c7b0 : decide (x5_2 < ((rd_T30 l0 0).f0)) = true := decide_eq_true c7; clear c7
         by_cases c8 : x3_2.length < 70368744177664
         ·
          rw [if_pos c8] at H; have LMc8 := am_ c8; clear c8; obtain ⟨y175, hy175⟩ : ∃ y_ : List (S46), y_ = (x3_2 ++ [(⟨x5_2, x4_1⟩ : S46)]) := ⟨_, rfl⟩
          replace H : (spec_l01All.l1 k2 l0 y175 x4_1 (IntKind.i8.wrap (x5_2 + 1))) = some r := by first | (rw [hy175]; with_reducible exact H) | (have H2_ := (Option.bind_some _ _).symm.trans H; rw [hy175]; with_reducible exact H2_) | (have H2_ := (Option.bind_some _ _).symm.trans H; with_reducible exact H2_) | with_reducible exact H | (rw [hy175]; exact H) | exact H
          have Ny175 := am_ hy175; clear hy175; have H' := am_ H; clear H; have p173 : 0 ≤ (0 : Int) := (by omega)
          have q173 : 0 < (l0.length : Int) := od_ (by first | (with_reducible assumption) | assumption); obtain ⟨ad173, A173_2, c173_2, e173, hx173_0, hx173_1, hx173_2, hl173_2, hi173_2⟩ := at_T30 HR0.out 0 p173 q173; obtain rfl : ad171 = ad173 := (by injection e173)
          have qi173 : (0 < l0.length) = True := eq_true (by omega); (try rw [show ((0 : Int)).toNat = 0 from rfl] at hx173_0); (try rw [show 0 * 3 = 0 from rfl] at hx173_0); (try rw [Addr.add_zero'] at hx173_0); (try rw [show ((0 : Int)).toNat = 0 from rfl] at hx173_1); (try rw [show 0 * 3 = 0 from rfl] at hx173_1); (try rw [Addr.add_zero'] at hx173_1); (try rw [show ((0 : Int)).toNat = 0 from rfl] at hx173_2); (try rw [show 0 * 3 = 0 from rfl] at hx173_2); (try rw [Addr.add_zero'] at hx173_2); replace hx173_0 := (HB.out.cell (bl_ w _ hx173_0)).trans hx173_0; replace hx173_1 := (HB.out.cell (bl_ w _ hx173_1)).trans hx173_1; replace hx173_2 := (HB.out.cell (bl_ w _ hx173_2)).trans hx173_2; have HR173_2 := am_ hi173_2; have HC173_2 := am_ hl173_2; clear hi173_2 hl173_2; replace p173 := eq_true p173; replace q173 := eq_true q173; have p174 : 0 ≤ (0 : Int) := (by omega)
          have q174 : 0 < (l0.length : Int) := od_ (by first | (with_reducible assumption) | assumption); obtain ⟨ad174, A174_2, c174_2, e174, hx174_0, hx174_1, hx174_2, hl174_2, hi174_2⟩ := at_T30 HR0.out 0 p174 q174; obtain rfl : ad171 = ad174 := (by injection e174)
          have qi174 : (0 < l0.length) = True := eq_true (by omega); (try rw [show ((0 : Int)).toNat = 0 from rfl] at hx174_0); (try rw [show 0 * 3 = 0 from rfl] at hx174_0); (try rw [Addr.add_zero'] at hx174_0); (try rw [show ((0 : Int)).toNat = 0 from rfl] at hx174_1); (try rw [show 0 * 3 = 0 from rfl] at hx174_1); (try rw [Addr.add_zero'] at hx174_1); (try rw [show ((0 : Int)).toNat = 0 from rfl] at hx174_2); (try rw [show 0 * 3 = 0 from rfl] at hx174_2); (try rw [Addr.add_zero'] at hx174_2); replace hx174_0 := (HB.out.cell (bl_ w _ hx174_0)).trans hx174_0; replace hx174_1 := (HB.out.cell (bl_ w _ hx174_1)).trans hx174_1; replace hx174_2 := (HB.out.cell (bl_ w _ hx174_2)).trans hx174_2; have HR174_2 := am_ hi174_2; have HC174_2 := am_ hl174_2; clear hi174_2 hl174_2; replace p174 := eq_true p174; replace q174 := eq_true q174; have ea_ := Option.some.inj (hx173_2.symm.trans hx174_2)
          injection ea_ with ea_ en_ ec_
          subst ea_; subst ec_; clear en_
          go_wp2_with (first | ((with_reducible refine gate_builtin (b := .append) (xs := #[.tmp 23, .tmp 27]) rfl ?_); at_builtin; refine Kd.R_append k46 (w0 := w) w.heap.size rfl (.tmp 23) (.tmp 27) 53 46 (.agg #[(.int .i8 0), (.int .i8 0)]) 2 rfl Try.underlying53 info46 rfl (by decide) (by omega) u3 x3_2 (⟨x5_2, x4_1⟩ : S46) [.int .i8 x5_2, .int .i8 x4_1] (fun _ => True) (fun _ => False) rfl rfl ?aP (fun _ hk => hk.elim) ?aF ?aO ?aB ?aS ?aL ?_; (case aP => exact k46_mkM _ _ _ (⟨x5_2, x4_1⟩ : S46)); (case aB => exact (by repeat (first | (with_reducible first | exact HB.out | apply bA_ | apply bN_ | apply bD_) | exact HB.out))); (case aF => exact (fun _ _ => trivial)); (case aO => exact (by (with_reducible repeat (first | apply Kd.R_alloc | apply Kd.R_drewN | apply Kd.R_drew)); exact HO_3.out)); (case aS => exact (below_size (by repeat (first | (with_reducible first | exact HB.out | apply bA_ | apply bN_ | apply bD_) | exact HB.out)))); (case aL => have := LMc8.out; omega); intro v176 w9 ho hb hg hat; rw [← Ny175.out] at ho; have n0_ := am_ (hb); have n1_ := am_ (ho); clear HB; clear HO_3; have HB := n0_; have HO177 := n1_; clear n0_ n1_; clear ho hb hg hat))
          go_roundg k2
          case measure => have := HK1.out; have := HK2.out; omega
          case rel => exact ⟨(y175), (IntKind.i8.wrap (x5_2 + 1)), (by first | rfl | (simp; done) | (simp [*]; done)), H', ⟨by have := HK1.out; have := HK2.out; omega⟩, ⟨by (with_reducible repeat (first | apply Kd.R_alloc | apply Kd.R_drewN | apply Kd.R_drew)); exact HO177.out⟩, ⟨by repeat (first | (with_reducible first | exact HB.out | apply bA_ | apply bN_ | apply bD_) | exact HB.out)⟩⟩
         ·
          rw [if_neg c8] at H; exact absurd H (by simp)
        ·
         rw [if_neg c7] at H; have c7b0 : decide (x5_2 < ((rd_T30 l0 0).f0)) = false := decide_eq_false c7; clear c7; have H' := am_ H; clear H; have p173 : 0 ≤ (0 : Int) := (by omega)
         have q173 : 0 < (l0.length : Int) := od_ (by first | (with_reducible assumption) | assumption); obtain ⟨ad173, A173_2, c173_2, e173, hx173_0, hx173_1, hx173_2, hl173_2, hi173_2⟩ := at_T30 HR0.out 0 p173 q173; obtain rfl : ad171 = ad173 := (by injection e173)
         have qi173 : (0 < l0.length) = True := eq_true (by omega); (try rw [show ((0 : Int)).toNat = 0 from rfl] at hx173_0); (try rw [show 0 * 3 = 0 from rfl] at hx173_0); (try rw [Addr.add_zero'] at hx173_0); (try rw [show ((0 : Int)).toNat = 0 from rfl] at hx173_1); (try rw [show 0 * 3 = 0 from rfl] at hx173_1); (try rw [Addr.add_zero'] at hx173_1); (try rw [show ((0 : Int)).toNat = 0 from rfl] at hx173_2); (try rw [show 0 * 3 = 0 from rfl] at hx173_2); (try rw [Addr.add_zero'] at hx173_2); replace hx173_0 := (HB.out.cell (bl_ w _ hx173_0)).trans hx173_0; replace hx173_1 := (HB.out.cell (bl_ w _ hx173_1)).trans hx173_1; replace hx173_2 := (HB.out.cell (bl_ w _ hx173_2)).trans hx173_2; have HR173_2 := am_ hi173_2; have HC173_2 := am_ hl173_2; clear hi173_2 hl173_2; replace p173 := eq_true p173; replace q173 := eq_true q173; have p174 : 0 ≤ (0 : Int) := (by omega)
         have q174 : 0 < (l0.length : Int) := od_ (by first | (with_reducible assumption) | assumption); obtain ⟨ad174, A174_2, c174_2, e174, hx174_0, hx174_1, hx174_2, hl174_2, hi174_2⟩ := at_T30 HR0.out 0 p174 q174; obtain rfl : ad171 = ad174 := (by injection e174)
         have qi174 : (0 < l0.length) = True := eq_true (by omega); (try rw [show ((0 : Int)).toNat = 0 from rfl] at hx174_0); (try rw [show 0 * 3 = 0 from rfl] at hx174_0); (try rw [Addr.add_zero'] at hx174_0); (try rw [show ((0 : Int)).toNat = 0 from rfl] at hx174_1); (try rw [show 0 * 3 = 0 from rfl] at hx174_1); (try rw [Addr.add_zero'] at hx174_1); (try rw [show ((0 : Int)).toNat = 0 from rfl] at hx174_2); (try rw [show 0 * 3 = 0 from rfl] at hx174_2); (try rw [Addr.add_zero'] at hx174_2); replace hx174_0 := (HB.out.cell (bl_ w _ hx174_0)).trans hx174_0; replace hx174_1 := (HB.out.cell (bl_ w _ hx174_1)).trans hx174_1; replace hx174_2 := (HB.out.cell (bl_ w _ hx174_2)).trans hx174_2; have HR174_2 := am_ hi174_2; have HC174_2 := am_ hl174_2; clear hi174_2 hl174_2; replace p174 := eq_true p174; replace q174 := eq_true q174; have ea_ := Option.some.inj (hx173_2.symm.trans hx174_2)
         injection ea_ with ea_ en_ ec_
         subst ea_; subst ec_; clear en_
         go_wp2
         go_roundg k2
         case measure => have := HK1.out; have := HK2.out; omega
         case rel => exact ⟨(x3_2), (IntKind.i8.wrap (x4_1 + 1)), (by first | rfl | (simp; done) | (simp [*]; done)), H', ⟨by have := HK1.out; have := HK2.out; omega⟩, ⟨by (with_reducible repeat (first | apply Kd.R_alloc | apply Kd.R_drewN | apply Kd.R_drew)); exact HO_3.out⟩, ⟨by repeat (first | (with_reducible first | exact HB.out | apply bA_ | apply bN_ | apply bD_) | exact HB.out)⟩⟩
       ·
        rw [if_neg c6] at H; exact absurd H (by simp)
    ·
     rw [if_neg c5] at H; have c5b0 : decide (x4_1 < ((rd_T30 l0 0).f1)) = false := decide_eq_false c5; clear c5; obtain rfl := Option.some.inj H; have p171 : 0 ≤ (0 : Int) := (by omega)
     have q171 : 0 < (l0.length : Int) := od_ (by first | (with_reducible assumption) | assumption); obtain ⟨ad171, A171_2, c171_2, e171, hx171_0, hx171_1, hx171_2, hl171_2, hi171_2⟩ := at_T30 HR0.out 0 p171 q171
     cases e171
     have qi171 : (0 < l0.length) = True := eq_true (by omega); (try rw [show ((0 : Int)).toNat = 0 from rfl] at hx171_0); (try rw [show 0 * 3 = 0 from rfl] at hx171_0); (try rw [Addr.add_zero'] at hx171_0); (try rw [show ((0 : Int)).toNat = 0 from rfl] at hx171_1); (try rw [show 0 * 3 = 0 from rfl] at hx171_1); (try rw [Addr.add_zero'] at hx171_1); (try rw [show ((0 : Int)).toNat = 0 from rfl] at hx171_2); (try rw [show 0 * 3 = 0 from rfl] at hx171_2); (try rw [Addr.add_zero'] at hx171_2); replace hx171_0 := (HB.out.cell (bl_ w _ hx171_0)).trans hx171_0; replace hx171_1 := (HB.out.cell (bl_ w _ hx171_1)).trans hx171_1; replace hx171_2 := (HB.out.cell (bl_ w _ hx171_2)).trans hx171_2; have HR171_2 := am_ hi171_2; have HC171_2 := am_ hl171_2; clear hi171_2 hl171_2; replace p171 := eq_true p171; replace q171 := eq_true q171; have p172 : 0 ≤ (0 : Int) := (by omega)
     have q172 : 0 < (l0.length : Int) := od_ (by first | (with_reducible assumption) | assumption); obtain ⟨ad172, A172_2, c172_2, e172, hx172_0, hx172_1, hx172_2, hl172_2, hi172_2⟩ := at_T30 HR0.out 0 p172 q172; obtain rfl : ad171 = ad172 := (by injection e172)
     have qi172 : (0 < l0.length) = True := eq_true (by omega); (try rw [show ((0 : Int)).toNat = 0 from rfl] at hx172_0); (try rw [show 0 * 3 = 0 from rfl] at hx172_0); (try rw [Addr.add_zero'] at hx172_0); (try rw [show ((0 : Int)).toNat = 0 from rfl] at hx172_1); (try rw [show 0 * 3 = 0 from rfl] at hx172_1); (try rw [Addr.add_zero'] at hx172_1); (try rw [show ((0 : Int)).toNat = 0 from rfl] at hx172_2); (try rw [show 0 * 3 = 0 from rfl] at hx172_2); (try rw [Addr.add_zero'] at hx172_2); replace hx172_0 := (HB.out.cell (bl_ w _ hx172_0)).trans hx172_0; replace hx172_1 := (HB.out.cell (bl_ w _ hx172_1)).trans hx172_1; replace hx172_2 := (HB.out.cell (bl_ w _ hx172_2)).trans hx172_2; have HR172_2 := am_ hi172_2; have HC172_2 := am_ hl172_2; clear hi172_2 hl172_2; replace p172 := eq_true p172; replace q172 := eq_true q172; have ea_ := Option.some.inj (hx171_2.symm.trans hx172_2)
     injection ea_ with ea_ en_ ec_
     subst ea_; subst ec_; clear en_
     go_wp2
     go_ret
     exact ⟨_, by first | rfl | (simp [errW_none, errW_some] <;> rfl) | (simp [*, errW_none, errW_some] <;> rfl), by (with_reducible repeat (first | apply Kd.R_alloc | apply Kd.R_drewN | apply Kd.R_drew)); exact HO_3.out, by repeat (first | (with_reducible first | exact HB.out | apply bA_ | apply bN_ | apply bD_) | exact HB.out)⟩
   ·
    rw [if_neg c4] at H; exact absurd H (by simp)
end Go.Proofs.Ytanpafadehnhlaa.Q
