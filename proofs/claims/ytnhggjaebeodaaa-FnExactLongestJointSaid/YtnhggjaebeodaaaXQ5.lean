-- Trimmed by a program.
import Derived.Test.YtnhggjaebeodaaaXQ0
import Derived.Test.YtnhggjaebeodaaaXQ4
namespace Go.Proofs.Ytnhggjaebeodaaa.Q
open Go.RowKit Go.Proofs.YtnhggjaebeodaaaW.PrintWords Go.Proofs.YtnhggjaebeodaaaW.PrintLast Go.Proofs.YtnhggjaebeodaaaW.PrintMore
attribute [local go_sem] max2_int min2_int max_two min_two max_three min_three max_four min_four
set_option linter.unusedVariables false
set_option linter.unusedSimpArgs false
def spec_l01Ok.f (k : Nat) (l0 : List (S33)) : Option (Bool) := (spec_l01Lay.f k l0).bind fun bt133 => (if bt133.1.length = 144 then (some bt133.2) else (none))
theorem spec_l01Ok.mono : ∀ a0 k, LeO (spec_l01Ok.f k a0) (spec_l01Ok.f (k + 1) a0) := by
 intro a0 k
 unfold spec_l01Ok.f
 repeat' first
   | (with_reducible exact spec_l01Lay.mono _ _)
   | (with_reducible exact LeO.refl _)
   | (with_reducible exact LeO.none _)
   | (with_reducible refine LeO.ite ?_ ?_)
   | (with_reducible refine LeO.bind ?_ (fun _ => ?_))
   | exact spec_l01Lay.mono _ _
   | exact LeO.none _
   | refine LeO.ite ?_ ?_
   | refine LeO.bind ?_ (fun _ => ?_)
set_option maxHeartbeats 8000000 in
set_option maxRecDepth 100000 in
theorem spec_l01Ok.calls (k : Nat) (A0 : Option Addr) (c0 : Nat) (l0 : List (S33)) (r : Bool) (w : World) (hr0 : Kd.C k33 w A0 l0.length l0) (hc0 : l0.length ≤ c0) (h : spec_l01Ok.f k l0 = some r) :
  Calls Try.prog 11 #[.pointer A0] w fun e w' => e = .returned (.bool r) ∧ Below w.heap.size w w' := by
 have hu43 := Try.underlying43; have HR0 := am_ hr0; have HC0 := am_ hc0; clear hr0 hc0; have HB := am_ (Below.refl w.heap.size w); have H : ((spec_l01Lay.f k l0).bind fun bt133 => (if bt133.1.length = 144 then (some bt133.2) else (none))) = some r := h; clear h; replace H := Option.bind_eq_some_iff.mp H; obtain ⟨⟨t133, t134⟩, A20, H⟩ := H; replace H : (if t133.length = 144 then (some t134) else (none)) = some r := H; have A2 := am_ A20; clear A20
 by_cases c3 : t133.length = 144
 ·
  rw [if_pos c3] at H; have c3b0 := eq_true c3; have c3b1 : decide (t133.length = 144) = true := decide_eq_true c3; clear c3; obtain rfl := Option.some.inj H
  go_enter Try.func11, Try.ntmps11
  go_wp2_with (first | ((with_reducible refine gate_callee (f := 12) rfl ?_); refine goesL_ (some 7) rfl rfl Try.func12 (by kernel_rfl) rfl #[.pointer A0] rfl (by (try simp only [List.map_toArray, List.map_cons, List.map_nil]); first | done | rfl | (simp only [List.length_drop, List.length_take]; rfl)) ?_; (with_reducible refine (spec_l01Lay.calls k _ c0 l0 t133 t134 _ ?side1 ?side2 A2.out).mono ?_); (case side1 => repeat (first | exact HR0.out | (with_reducible refine Kd.C_alloc ?_ _) | (with_reducible refine Kd.C_drewN ?_ _) | (with_reducible refine Kd.C_drew ?_))); (case side2 => exact HC0.out); rintro e w4 ⟨rfl, hb⟩; refine ⟨_, rfl, ?_⟩; have n0_ := am_ (bT_ (by repeat (first | (with_reducible first | exact HB.out | apply bA_ | apply bN_ | apply bD_) | exact HB.out)) hb); clear HB; have HB := n0_; clear n0_; (try clear hb); (try clear hb2); (try clear hk); (try clear hi)) | ((with_reducible refine gate_dst (N := 3) rfl ?_); refine box_event ?hg (N := 3) ?hd (cs := (arrC .i64 (arrZ 144))) (t := 43) ?hr ?_; (case hd => rfl); (case hg => rfl); (case hr => exact arr_alloc rfl .i64 144 (by kernel_rfl)); intro gb135 hg w5 hbox hb; have n0_ := am_ (bT_ (by repeat (first | (with_reducible first | exact HB.out | apply bA_ | apply bN_ | apply bD_) | exact HB.out)) hb); have n1_ := am_ (hbox); have n2_ := am_ ((by rw [hg]; exact (bZ_ (by repeat (first | (with_reducible first | exact HB.out | apply bA_ | apply bN_ | apply bD_) | exact HB.out))) : w.heap.size ≤ gb135)); have n3_ := n2_; clear HB; have HB := n0_; have BK135 := n1_; have GW135 := n2_; have GE135 := n3_; clear n0_ n1_ n2_ n3_; clear hb hbox hg) | ((with_reducible refine gate_store (t := 43) (p := 3) rfl ?_); refine arr_store (p := 3) (v := ?vv_w6) (n := 144) (k := .i64) (g := gb135) (l := (arrZ 144)) (l2 := t133) ?hg ?hn (t := 43) ?ho ?hp ?hv (by (with_reducible repeat (first | apply kN_ | apply kD_ | apply kA_)); exact BK135.out) (by kernel_rfl) (arrZ_length _) (od_ (by first | (with_reducible assumption) | assumption)) ?_; (case ho => rfl); (case hg => rfl); (case hn => rfl); (case hp => rfl); (case hv => rfl); intro w6 hg hx; have n0_ := am_ (hx); have n1_ := am_ (Below.grown (by repeat (first | (with_reducible first | exact HB.out | apply bA_ | apply bN_ | apply bD_ | refine bS_ ?_ GE135.out) | exact HB.out)) hg (bZ_ (by repeat (first | (with_reducible first | exact HB.out | apply bA_ | apply bN_ | apply bD_ | refine bS_ ?_ GE135.out) | exact HB.out))) (fun k_ e_ => by cases e_; exact GE135.out)); clear BK135; clear HB; have BK135 := n0_; have HB := n1_; clear n0_ n1_; clear hg hx))
  go_ret
  exact ⟨by first | rfl | (simp [errW_none, errW_some] <;> rfl) | (simp [*, errW_none, errW_some] <;> rfl), by repeat (first | (with_reducible first | exact HB.out | apply bA_ | apply bN_ | apply bD_ | refine bS_ ?_ GE135.out) | exact HB.out)⟩
 ·
  rw [if_neg c3] at H; exact absurd H (by simp)
mutual
def spec_l01All.l0 : Nat → List (S33) → List (S28) → Int → Option ((List (S28)))
 | 0, _, _, _ => none
 | k + 1, x0, x3, x4 => if 0 < (x0.length : Int) then (if x4 < ((rd_T33 x0 0).f1) then (spec_l01All.l1 k x0 x3 x4 0) else (some x3)) else (none)
def spec_l01All.l1 : Nat → List (S33) → List (S28) → Int → Int → Option ((List (S28)))
 | 0, _, _, _, _ => none
 | k + 1, x0, x3, x4, x5 => if 0 < (x0.length : Int) then (if x5 < ((rd_T33 x0 0).f0) then (if x3.length < 70368744177664 then (spec_l01All.l1 k x0 (x3 ++ [(⟨x5, x4⟩ : S28)]) x4 (IntKind.i8.wrap (x5 + 1))) else (none)) else (spec_l01All.l0 k x0 x3 (IntKind.i8.wrap (x4 + 1)))) else (none)
end
def spec_l01All.f (k : Nat) (l0 : List (S33)) : Option ((List (S28))) := spec_l01All.l0 k l0 (([] : List (S28))) 0
theorem spec_l01All.mono_l : ∀ k, (∀ y0 y1 y2, LeO (spec_l01All.l0 k y0 y1 y2) (spec_l01All.l0 (k + 1) y0 y1 y2)) ∧ (∀ y0 y1 y2 y3, LeO (spec_l01All.l1 k y0 y1 y2 y3) (spec_l01All.l1 (k + 1) y0 y1 y2 y3))
 | 0 => ⟨fun _ _ _ r h => by simp [spec_l01All.l0] at h, fun _ _ _ _ r h => by simp [spec_l01All.l1] at h⟩
 | k + 1 => by
  obtain ⟨ih0, ih1⟩ := spec_l01All.mono_l k; refine ⟨?_, ?_⟩
  ·
   intro y0 y1 y2
   unfold spec_l01All.l0
   repeat' first
   | (with_reducible exact ih0 _ _ _)
   | (with_reducible exact ih1 _ _ _ _)
   | (with_reducible exact LeO.refl _)
   | (with_reducible exact LeO.none _)
   | (with_reducible refine LeO.ite ?_ ?_)
   | (with_reducible refine LeO.bind ?_ (fun _ => ?_))
   | exact ih0 _ _ _
   | exact ih1 _ _ _ _
   | exact LeO.none _
   | refine LeO.ite ?_ ?_
   | refine LeO.bind ?_ (fun _ => ?_)
  ·
   intro y0 y1 y2 y3
   unfold spec_l01All.l1
   repeat' first
   | (with_reducible exact ih0 _ _ _)
   | (with_reducible exact ih1 _ _ _ _)
   | (with_reducible exact LeO.refl _)
   | (with_reducible exact LeO.none _)
   | (with_reducible refine LeO.ite ?_ ?_)
   | (with_reducible refine LeO.bind ?_ (fun _ => ?_))
   | exact ih0 _ _ _
   | exact ih1 _ _ _ _
   | exact LeO.none _
   | refine LeO.ite ?_ ?_
   | refine LeO.bind ?_ (fun _ => ?_)
theorem spec_l01All.mono : ∀ a0 k, LeO (spec_l01All.f k a0) (spec_l01All.f (k + 1) a0) := by
 intro a0 k; obtain ⟨ih0, ih1⟩ := spec_l01All.mono_l k
 unfold spec_l01All.f
 repeat' first
   | (with_reducible exact ih0 _ _ _)
   | (with_reducible exact ih1 _ _ _ _)
   | (with_reducible exact LeO.refl _)
   | (with_reducible exact LeO.none _)
   | (with_reducible refine LeO.ite ?_ ?_)
   | (with_reducible refine LeO.bind ?_ (fun _ => ?_))
   | exact ih0 _ _ _
   | exact ih1 _ _ _ _
   | exact LeO.none _
   | refine LeO.ite ?_ ?_
   | refine LeO.bind ?_ (fun _ => ?_)
set_option maxHeartbeats 8000000 in
set_option maxRecDepth 100000 in
theorem spec_l01All.calls (k : Nat) (A0 : Option Addr) (c0 : Nat) (l0 : List (S33)) (r : List (S28)) (w : World) (hr0 : Kd.C k33 w A0 l0.length l0) (hc0 : l0.length ≤ c0) (h : spec_l01All.f k l0 = some r) :
  Calls Try.prog 13 #[.pointer A0] w fun e w' => ∃ v0_ : Value, e = .returned (v0_) ∧ Kd.R k28 28 w' w.heap.size (fun _ => True) v0_ r ∧ Below w.heap.size w w' := by
 have hu28 := Try.underlying28; have HR0 := am_ hr0; have HC0 := am_ hc0; clear hr0 hc0; have HB := am_ (Below.refl w.heap.size w); have H : (spec_l01All.l0 k l0 (([] : List (S28))) 0) = some r := h; clear h; obtain ⟨y136, hy136⟩ : ∃ y_ : List (S28), y_ = (([] : List (S28))) := ⟨_, rfl⟩
 replace H : (spec_l01All.l0 k l0 y136 0) = some r := by first | (rw [hy136]; with_reducible exact H) | (have H2_ := (Option.bind_some _ _).symm.trans H; rw [hy136]; with_reducible exact H2_) | (have H2_ := (Option.bind_some _ _).symm.trans H; with_reducible exact H2_) | with_reducible exact H | (rw [hy136]; exact H) | exact H
 have Ny136 := am_ hy136; clear hy136; have H' := am_ H; clear H
 go_enter Try.func13, Try.ntmps13
 go_wp2_with (first | ((with_reducible refine gate_dst (N := 6) rfl ?_); refine Kd.R_lit k28 _ 28 ?hg (N := 6) ?hd (xs := ([] : List (S28))) (inner := []) (ok := fun _ => True) (okp := fun _ => True) ?hr ?hp (fun _ hk => hk) trivial (Below.refl _ _) (Nat.le_refl _) (by simp) ?_; (case hd => rfl); (case hg => rfl); (case hr => first | (go_simp; done) | (go_simp; rfl)); (case hp => exact (Reps.none _ _)); intro v137 w2 ho3 hb hg_ hnew_; clear hg_ hnew_; (first | rw [← Ny136.out] at ho3 | (simp only [Int.reduceToNat] at ho3; rw [← Ny136.out] at ho3)); have n0_ := am_ (Kd.R_lower ho3 (bZ_ (by repeat (first | (with_reducible first | exact HB.out | apply bA_ | apply bN_ | apply bD_) | exact HB.out)))); have n1_ := am_ (bT_ (by repeat (first | (with_reducible first | exact HB.out | apply bA_ | apply bN_ | apply bD_) | exact HB.out)) hb); clear HB; have HO138 := n0_; have HB := n1_; clear n0_ n1_; clear hb ho3))
 go_loopg [3, 4] k (fun kq v3 v4 w' => ∃ (x3_1 : List (S28)) (x4_1 : Int), v4 = .int .i8 x4_1 ∧ Aside0 (spec_l01All.l0 kq l0 x3_1 x4_1 = some r) ∧ Aside0 (kq ≤ k) ∧ Aside0 (Kd.R k28 28 w' w.heap.size (fun _ => True) v3 x3_1) ∧ Aside0 (Below w.heap.size w w'))
 case atStart => exact ⟨(y136), (0), (by first | rfl | (simp; done) | (simp [*]; done)), H', ⟨Nat.le_refl _⟩, ⟨by (with_reducible repeat (first | apply Kd.R_alloc | apply Kd.R_drewN | apply Kd.R_drew)); exact HO138.out⟩, ⟨by repeat (first | (with_reducible first | exact HB.out | apply bA_ | apply bN_ | apply bD_) | exact HB.out)⟩⟩
 case round =>
  clear H'; (try clear c1); (try clear p2); obtain ⟨x3_1, x4_1, rfl, HA, HK1, HO_3, HB⟩ := hrel
  cases gk with
  | zero => exact absurd HA.out (by simp [spec_l01All.l0])
  | succ k1 =>
   have H := HA.out; clear HA; simp only [spec_l01All.l0] at H
   by_cases c4 : 0 < (l0.length : Int)
   ·
    rw [if_pos c4] at H; have c4b0 : decide (0 < (l0.length : Int)) = true := decide_eq_true c4; have c4b1 : decide (0 < l0.length) = true := decide_eq_true (by omega); clear c4
    by_cases c5 : x4_1 < ((rd_T33 l0 0).f1)
    ·
     rw [if_pos c5] at H; have c5b0 : decide (x4_1 < ((rd_T33 l0 0).f1)) = true := decide_eq_true c5; clear c5; have H' := am_ H; clear H; have p139 : 0 ≤ (0 : Int) := (by omega)
     have q139 : 0 < (l0.length : Int) := od_ (by first | (with_reducible assumption) | assumption); obtain ⟨ad139, A139_2, c139_2, e139, hx139_0, hx139_1, hx139_2, hl139_2, hi139_2⟩ := at_T33 HR0.out 0 p139 q139
     cases e139
     have qi139 : (0 < l0.length) = True := eq_true (by omega); (try rw [show ((0 : Int)).toNat = 0 from rfl] at hx139_0); (try rw [show 0 * 3 = 0 from rfl] at hx139_0); (try rw [Addr.add_zero'] at hx139_0); (try rw [show ((0 : Int)).toNat = 0 from rfl] at hx139_1); (try rw [show 0 * 3 = 0 from rfl] at hx139_1); (try rw [Addr.add_zero'] at hx139_1); (try rw [show ((0 : Int)).toNat = 0 from rfl] at hx139_2); (try rw [show 0 * 3 = 0 from rfl] at hx139_2); (try rw [Addr.add_zero'] at hx139_2); replace hx139_0 := (HB.out.cell (bl_ w _ hx139_0)).trans hx139_0; replace hx139_1 := (HB.out.cell (bl_ w _ hx139_1)).trans hx139_1; replace hx139_2 := (HB.out.cell (bl_ w _ hx139_2)).trans hx139_2; have HR139_2 := am_ hi139_2; have HC139_2 := am_ hl139_2; clear hi139_2 hl139_2; replace p139 := eq_true p139; replace q139 := eq_true q139; have p140 : 0 ≤ (0 : Int) := (by omega)
     have q140 : 0 < (l0.length : Int) := od_ (by first | (with_reducible assumption) | assumption); obtain ⟨ad140, A140_2, c140_2, e140, hx140_0, hx140_1, hx140_2, hl140_2, hi140_2⟩ := at_T33 HR0.out 0 p140 q140; obtain rfl : ad139 = ad140 := (by injection e140)
     have qi140 : (0 < l0.length) = True := eq_true (by omega); (try rw [show ((0 : Int)).toNat = 0 from rfl] at hx140_0); (try rw [show 0 * 3 = 0 from rfl] at hx140_0); (try rw [Addr.add_zero'] at hx140_0); (try rw [show ((0 : Int)).toNat = 0 from rfl] at hx140_1); (try rw [show 0 * 3 = 0 from rfl] at hx140_1); (try rw [Addr.add_zero'] at hx140_1); (try rw [show ((0 : Int)).toNat = 0 from rfl] at hx140_2); (try rw [show 0 * 3 = 0 from rfl] at hx140_2); (try rw [Addr.add_zero'] at hx140_2); replace hx140_0 := (HB.out.cell (bl_ w _ hx140_0)).trans hx140_0; replace hx140_1 := (HB.out.cell (bl_ w _ hx140_1)).trans hx140_1; replace hx140_2 := (HB.out.cell (bl_ w _ hx140_2)).trans hx140_2; have HR140_2 := am_ hi140_2; have HC140_2 := am_ hl140_2; clear hi140_2 hl140_2; replace p140 := eq_true p140; replace q140 := eq_true q140; have ea_ := Option.some.inj (hx139_2.symm.trans hx140_2)
     injection ea_ with ea_ en_ ec_
     subst ea_; subst ec_; clear en_
     go_wp2
     go_loopg [3, 5] k1 (fun kq v3 v5 w' => ∃ (x3_2 : List (S28)) (x5_2 : Int), v5 = .int .i8 x5_2 ∧ Aside0 (spec_l01All.l1 kq l0 x3_2 x4_1 x5_2 = some r) ∧ Aside0 (kq ≤ k1) ∧ Aside0 (Kd.R k28 28 w' w.heap.size (fun _ => True) v3 x3_2) ∧ Aside0 (Below w.heap.size w w'))
     case atStart => exact ⟨(x3_1), (0), (by first | rfl | (simp; done) | (simp [*]; done)), H', ⟨Nat.le_refl _⟩, ⟨by (with_reducible repeat (first | apply Kd.R_alloc | apply Kd.R_drewN | apply Kd.R_drew)); exact HO_3.out⟩, ⟨by repeat (first | (with_reducible first | exact HB.out | apply bA_ | apply bN_ | apply bD_) | exact HB.out)⟩⟩
     case round =>
      clear H'; (try clear c1); (try clear p1); (try clear q1); (try clear hx1); (try clear qi1); (try clear p2); (try clear c4); (try clear c4b0); (try clear c4b1); (try clear c5); (try clear c5b0); (try clear hx139_0); (try clear hx139_1); (try clear hx139_2); (try clear hx140_0); (try clear hx140_1); (try clear hx140_2); (try clear p139); (try clear p140); (try clear p2); (try clear q139); (try clear q140); obtain ⟨x3_2, x5_2, rfl, HA, HK2, HO_3, HB⟩ := hrel
      cases gk with
      | zero => exact absurd HA.out (by simp [spec_l01All.l1])
      | succ k2 =>
       have H := HA.out; clear HA; simp only [spec_l01All.l1] at H
       by_cases c6 : 0 < (l0.length : Int)
       ·
        rw [if_pos c6] at H; have c6b0 : decide (0 < (l0.length : Int)) = true := decide_eq_true c6; have c6b1 : decide (0 < l0.length) = true := decide_eq_true (by omega); clear c6
        by_cases c7 : x5_2 < ((rd_T33 l0 0).f0)
        ·
         rw [if_pos c7] at H; have c7b0 : decide (x5_2 < ((rd_T33 l0 0).f0)) = true := decide_eq_true c7; clear c7
         by_cases c8 : x3_2.length < 70368744177664
         ·
          rw [if_pos c8] at H; have LMc8 := am_ c8; clear c8; obtain ⟨y143, hy143⟩ : ∃ y_ : List (S28), y_ = (x3_2 ++ [(⟨x5_2, x4_1⟩ : S28)]) := ⟨_, rfl⟩
          replace H : (spec_l01All.l1 k2 l0 y143 x4_1 (IntKind.i8.wrap (x5_2 + 1))) = some r := by first | (rw [hy143]; with_reducible exact H) | (have H2_ := (Option.bind_some _ _).symm.trans H; rw [hy143]; with_reducible exact H2_) | (have H2_ := (Option.bind_some _ _).symm.trans H; with_reducible exact H2_) | with_reducible exact H | (rw [hy143]; exact H) | exact H
          have Ny143 := am_ hy143; clear hy143; have H' := am_ H; clear H; have p141 : 0 ≤ (0 : Int) := (by omega)
          have q141 : 0 < (l0.length : Int) := od_ (by first | (with_reducible assumption) | assumption); obtain ⟨ad141, A141_2, c141_2, e141, hx141_0, hx141_1, hx141_2, hl141_2, hi141_2⟩ := at_T33 HR0.out 0 p141 q141; obtain rfl : ad139 = ad141 := (by injection e141)
          have qi141 : (0 < l0.length) = True := eq_true (by omega); (try rw [show ((0 : Int)).toNat = 0 from rfl] at hx141_0); (try rw [show 0 * 3 = 0 from rfl] at hx141_0); (try rw [Addr.add_zero'] at hx141_0); (try rw [show ((0 : Int)).toNat = 0 from rfl] at hx141_1); (try rw [show 0 * 3 = 0 from rfl] at hx141_1); (try rw [Addr.add_zero'] at hx141_1); (try rw [show ((0 : Int)).toNat = 0 from rfl] at hx141_2); (try rw [show 0 * 3 = 0 from rfl] at hx141_2); (try rw [Addr.add_zero'] at hx141_2); replace hx141_0 := (HB.out.cell (bl_ w _ hx141_0)).trans hx141_0; replace hx141_1 := (HB.out.cell (bl_ w _ hx141_1)).trans hx141_1; replace hx141_2 := (HB.out.cell (bl_ w _ hx141_2)).trans hx141_2; have HR141_2 := am_ hi141_2; have HC141_2 := am_ hl141_2; clear hi141_2 hl141_2; replace p141 := eq_true p141; replace q141 := eq_true q141; have p142 : 0 ≤ (0 : Int) := (by omega)
          have q142 : 0 < (l0.length : Int) := od_ (by first | (with_reducible assumption) | assumption); obtain ⟨ad142, A142_2, c142_2, e142, hx142_0, hx142_1, hx142_2, hl142_2, hi142_2⟩ := at_T33 HR0.out 0 p142 q142; obtain rfl : ad139 = ad142 := (by injection e142)
          have qi142 : (0 < l0.length) = True := eq_true (by omega); (try rw [show ((0 : Int)).toNat = 0 from rfl] at hx142_0); (try rw [show 0 * 3 = 0 from rfl] at hx142_0); (try rw [Addr.add_zero'] at hx142_0); (try rw [show ((0 : Int)).toNat = 0 from rfl] at hx142_1); (try rw [show 0 * 3 = 0 from rfl] at hx142_1); (try rw [Addr.add_zero'] at hx142_1); (try rw [show ((0 : Int)).toNat = 0 from rfl] at hx142_2); (try rw [show 0 * 3 = 0 from rfl] at hx142_2); (try rw [Addr.add_zero'] at hx142_2); replace hx142_0 := (HB.out.cell (bl_ w _ hx142_0)).trans hx142_0; replace hx142_1 := (HB.out.cell (bl_ w _ hx142_1)).trans hx142_1; replace hx142_2 := (HB.out.cell (bl_ w _ hx142_2)).trans hx142_2; have HR142_2 := am_ hi142_2; have HC142_2 := am_ hl142_2; clear hi142_2 hl142_2; replace p142 := eq_true p142; replace q142 := eq_true q142; have ea_ := Option.some.inj (hx141_2.symm.trans hx142_2)
          injection ea_ with ea_ en_ ec_
          subst ea_; subst ec_; clear en_
          go_wp2_with (first | ((with_reducible refine gate_builtin (b := .append) (xs := #[.tmp 23, .tmp 27]) rfl ?_); at_builtin; refine Kd.R_append k28 (w0 := w) w.heap.size rfl (.tmp 23) (.tmp 27) 46 28 (.agg #[(.int .i8 0), (.int .i8 0)]) 2 rfl Try.underlying46 info28 rfl (by decide) (by omega) u3 x3_2 (⟨x5_2, x4_1⟩ : S28) [.int .i8 x5_2, .int .i8 x4_1] (fun _ => True) (fun _ => False) rfl rfl ?aP (fun _ hk => hk.elim) ?aF ?aO ?aB ?aS ?aL ?_; (case aP => exact k28_mkM _ _ _ (⟨x5_2, x4_1⟩ : S28)); (case aB => exact (by repeat (first | (with_reducible first | exact HB.out | apply bA_ | apply bN_ | apply bD_) | exact HB.out))); (case aF => exact (fun _ _ => trivial)); (case aO => exact (by (with_reducible repeat (first | apply Kd.R_alloc | apply Kd.R_drewN | apply Kd.R_drew)); exact HO_3.out)); (case aS => exact (bZ_ (by repeat (first | (with_reducible first | exact HB.out | apply bA_ | apply bN_ | apply bD_) | exact HB.out)))); (case aL => have := LMc8.out; omega); intro v144 w9 ho hb hg hat; rw [← Ny143.out] at ho; have n0_ := am_ (hb); have n1_ := am_ (ho); clear HB; clear HO_3; have HB := n0_; have HO145 := n1_; clear n0_ n1_; clear ho hb hg hat))
          go_roundg k2
          case measure => have := HK1.out; have := HK2.out; omega
          case rel => exact ⟨(y143), (IntKind.i8.wrap (x5_2 + 1)), (by first | rfl | (simp; done) | (simp [*]; done)), H', ⟨by have := HK1.out; have := HK2.out; omega⟩, ⟨by (with_reducible repeat (first | apply Kd.R_alloc | apply Kd.R_drewN | apply Kd.R_drew)); exact HO145.out⟩, ⟨by repeat (first | (with_reducible first | exact HB.out | apply bA_ | apply bN_ | apply bD_) | exact HB.out)⟩⟩
         ·
          rw [if_neg c8] at H; exact absurd H (by simp)
        ·
         rw [if_neg c7] at H; have c7b0 : decide (x5_2 < ((rd_T33 l0 0).f0)) = false := decide_eq_false c7; clear c7; have H' := am_ H; clear H; have p141 : 0 ≤ (0 : Int) := (by omega)
         have q141 : 0 < (l0.length : Int) := od_ (by first | (with_reducible assumption) | assumption); obtain ⟨ad141, A141_2, c141_2, e141, hx141_0, hx141_1, hx141_2, hl141_2, hi141_2⟩ := at_T33 HR0.out 0 p141 q141; obtain rfl : ad139 = ad141 := (by injection e141)
         have qi141 : (0 < l0.length) = True := eq_true (by omega); (try rw [show ((0 : Int)).toNat = 0 from rfl] at hx141_0); (try rw [show 0 * 3 = 0 from rfl] at hx141_0); (try rw [Addr.add_zero'] at hx141_0); (try rw [show ((0 : Int)).toNat = 0 from rfl] at hx141_1); (try rw [show 0 * 3 = 0 from rfl] at hx141_1); (try rw [Addr.add_zero'] at hx141_1); (try rw [show ((0 : Int)).toNat = 0 from rfl] at hx141_2); (try rw [show 0 * 3 = 0 from rfl] at hx141_2); (try rw [Addr.add_zero'] at hx141_2); replace hx141_0 := (HB.out.cell (bl_ w _ hx141_0)).trans hx141_0; replace hx141_1 := (HB.out.cell (bl_ w _ hx141_1)).trans hx141_1; replace hx141_2 := (HB.out.cell (bl_ w _ hx141_2)).trans hx141_2; have HR141_2 := am_ hi141_2; have HC141_2 := am_ hl141_2; clear hi141_2 hl141_2; replace p141 := eq_true p141; replace q141 := eq_true q141; have p142 : 0 ≤ (0 : Int) := (by omega)
         have q142 : 0 < (l0.length : Int) := od_ (by first | (with_reducible assumption) | assumption); obtain ⟨ad142, A142_2, c142_2, e142, hx142_0, hx142_1, hx142_2, hl142_2, hi142_2⟩ := at_T33 HR0.out 0 p142 q142; obtain rfl : ad139 = ad142 := (by injection e142)
         have qi142 : (0 < l0.length) = True := eq_true (by omega); (try rw [show ((0 : Int)).toNat = 0 from rfl] at hx142_0); (try rw [show 0 * 3 = 0 from rfl] at hx142_0); (try rw [Addr.add_zero'] at hx142_0); (try rw [show ((0 : Int)).toNat = 0 from rfl] at hx142_1); (try rw [show 0 * 3 = 0 from rfl] at hx142_1); (try rw [Addr.add_zero'] at hx142_1); (try rw [show ((0 : Int)).toNat = 0 from rfl] at hx142_2); (try rw [show 0 * 3 = 0 from rfl] at hx142_2); (try rw [Addr.add_zero'] at hx142_2); replace hx142_0 := (HB.out.cell (bl_ w _ hx142_0)).trans hx142_0; replace hx142_1 := (HB.out.cell (bl_ w _ hx142_1)).trans hx142_1; replace hx142_2 := (HB.out.cell (bl_ w _ hx142_2)).trans hx142_2; have HR142_2 := am_ hi142_2; have HC142_2 := am_ hl142_2; clear hi142_2 hl142_2; replace p142 := eq_true p142; replace q142 := eq_true q142; have ea_ := Option.some.inj (hx141_2.symm.trans hx142_2)
         injection ea_ with ea_ en_ ec_
         subst ea_; subst ec_; clear en_
         go_wp2
         go_roundg k2
         case measure => have := HK1.out; have := HK2.out; omega
         case rel => exact ⟨(x3_2), (IntKind.i8.wrap (x4_1 + 1)), (by first | rfl | (simp; done) | (simp [*]; done)), H', ⟨by have := HK1.out; have := HK2.out; omega⟩, ⟨by (with_reducible repeat (first | apply Kd.R_alloc | apply Kd.R_drewN | apply Kd.R_drew)); exact HO_3.out⟩, ⟨by repeat (first | (with_reducible first | exact HB.out | apply bA_ | apply bN_ | apply bD_) | exact HB.out)⟩⟩
       ·
        rw [if_neg c6] at H; exact absurd H (by simp)
    ·
     rw [if_neg c5] at H; have c5b0 : decide (x4_1 < ((rd_T33 l0 0).f1)) = false := decide_eq_false c5; clear c5; obtain rfl := Option.some.inj H; have p139 : 0 ≤ (0 : Int) := (by omega)
     have q139 : 0 < (l0.length : Int) := od_ (by first | (with_reducible assumption) | assumption); obtain ⟨ad139, A139_2, c139_2, e139, hx139_0, hx139_1, hx139_2, hl139_2, hi139_2⟩ := at_T33 HR0.out 0 p139 q139
     cases e139
     have qi139 : (0 < l0.length) = True := eq_true (by omega); (try rw [show ((0 : Int)).toNat = 0 from rfl] at hx139_0); (try rw [show 0 * 3 = 0 from rfl] at hx139_0); (try rw [Addr.add_zero'] at hx139_0); (try rw [show ((0 : Int)).toNat = 0 from rfl] at hx139_1); (try rw [show 0 * 3 = 0 from rfl] at hx139_1); (try rw [Addr.add_zero'] at hx139_1); (try rw [show ((0 : Int)).toNat = 0 from rfl] at hx139_2); (try rw [show 0 * 3 = 0 from rfl] at hx139_2); (try rw [Addr.add_zero'] at hx139_2); replace hx139_0 := (HB.out.cell (bl_ w _ hx139_0)).trans hx139_0; replace hx139_1 := (HB.out.cell (bl_ w _ hx139_1)).trans hx139_1; replace hx139_2 := (HB.out.cell (bl_ w _ hx139_2)).trans hx139_2; have HR139_2 := am_ hi139_2; have HC139_2 := am_ hl139_2; clear hi139_2 hl139_2; replace p139 := eq_true p139; replace q139 := eq_true q139; have p140 : 0 ≤ (0 : Int) := (by omega)
     have q140 : 0 < (l0.length : Int) := od_ (by first | (with_reducible assumption) | assumption); obtain ⟨ad140, A140_2, c140_2, e140, hx140_0, hx140_1, hx140_2, hl140_2, hi140_2⟩ := at_T33 HR0.out 0 p140 q140; obtain rfl : ad139 = ad140 := (by injection e140)
     have qi140 : (0 < l0.length) = True := eq_true (by omega); (try rw [show ((0 : Int)).toNat = 0 from rfl] at hx140_0); (try rw [show 0 * 3 = 0 from rfl] at hx140_0); (try rw [Addr.add_zero'] at hx140_0); (try rw [show ((0 : Int)).toNat = 0 from rfl] at hx140_1); (try rw [show 0 * 3 = 0 from rfl] at hx140_1); (try rw [Addr.add_zero'] at hx140_1); (try rw [show ((0 : Int)).toNat = 0 from rfl] at hx140_2); (try rw [show 0 * 3 = 0 from rfl] at hx140_2); (try rw [Addr.add_zero'] at hx140_2); replace hx140_0 := (HB.out.cell (bl_ w _ hx140_0)).trans hx140_0; replace hx140_1 := (HB.out.cell (bl_ w _ hx140_1)).trans hx140_1; replace hx140_2 := (HB.out.cell (bl_ w _ hx140_2)).trans hx140_2; have HR140_2 := am_ hi140_2; have HC140_2 := am_ hl140_2; clear hi140_2 hl140_2; replace p140 := eq_true p140; replace q140 := eq_true q140; have ea_ := Option.some.inj (hx139_2.symm.trans hx140_2)
     injection ea_ with ea_ en_ ec_
     subst ea_; subst ec_; clear en_
     go_wp2
     go_ret
     exact ⟨_, by first | rfl | (simp [errW_none, errW_some] <;> rfl) | (simp [*, errW_none, errW_some] <;> rfl), by (with_reducible repeat (first | apply Kd.R_alloc | apply Kd.R_drewN | apply Kd.R_drew)); exact HO_3.out, by repeat (first | (with_reducible first | exact HB.out | apply bA_ | apply bN_ | apply bD_) | exact HB.out)⟩
   ·
    rw [if_neg c4] at H; exact absurd H (by simp)
def spec_l01Joint.o (l : List Int) (x y : Int) (b : Bool) : Int := if b = true then rd l ((y - 1) * 12 + x) else rd l (y * 12 + (x - 1))
def spec_l01Joint.v (l : List Int) (x y : Int) (b : Bool) : Bool := if x < 0 ∨ y < 0 ∨ x ≥ 12 ∨ y ≥ 12 ∨ (b = true ∧ y = 0) ∨ (b = false ∧ x = 0) then false else decide (rd l (y * 12 + x) ≠ 0 ∧ spec_l01Joint.o l x y b ≠ 0 ∧ rd l (y * 12 + x) ≠ spec_l01Joint.o l x y b)
def spec_l01Joint.f (l0 : List Int) (a1 a2 : Int) (a3 : Bool) : Option (Bool) := if l0.length = 144 then some (spec_l01Joint.v l0 a1 a2 a3) else none
theorem spec_l01Joint.len {l0 : List Int} {a1 a2 : Int} {a3 r : Bool} (h : spec_l01Joint.f l0 a1 a2 a3 = some r) : l0.length = 144 := by
 unfold spec_l01Joint.f at h
 by_cases c : l0.length = 144
 · exact c
 ·
  rw [if_neg c] at h
  cases h
theorem spec_l01Joint.w8 (n : Nat) (h : n < 12) : IntKind.i8.wrap (n : Int) = (n : Int) := by
 unfold IntKind.wrap
 have e : (2 ^ IntKind.i8.bits : Int) = 256 := rfl; have e2 : (2 ^ (IntKind.i8.bits - 1) : Int) = 128 := rfl; have e3 : IntKind.i8.signed = true := rfl; rw [e, e2, e3]; simp only [Bool.true_and]; rw [Int.emod_eq_of_lt (by omega) (by omega), if_neg (by simp; omega)]
theorem spec_l01Joint.drew (w : World) : Drawn0 w w.drew := ⟨⟨1, rfl⟩⟩
set_option maxHeartbeats 8000000 in
set_option maxRecDepth 100000 in
theorem spec_l01Joint.less (x : Int) (b : Bool) (w : World) : Calls Try.prog 24 #[.int .i8 x, .bool b] w fun e w' => e = .returned (.int .i8 (if b = true then x else IntKind.i8.wrap (x - 1))) ∧ w' = w := by
 cases b
 ·
  go_enter Try.func24, Try.ntmps24
  go_wp2
  go_ret
  exact ⟨rfl, rfl⟩
 ·
  go_enter Try.func24, Try.ntmps24
  go_wp2
  go_ret
  exact ⟨rfl, rfl⟩
set_option maxHeartbeats 8000000 in
set_option maxRecDepth 100000 in
theorem spec_l01Joint.north (ad : Addr) (m n : Nat) (hm : m < 12) (hn : n + 1 < 12) (w : World) (p q : Int) (c0 : w.cell? ((ad.add ((n + 1) * 12)).add m) = some (.int .i64 p)) (c1 : w.cell? ((ad.add (n * 12)).add m) = some (.int .i64 q)) :
  Calls Try.prog 14 #[.pointer (some ad), .int .i8 (m : Int), .int .i8 ((n + 1 : Nat) : Int), .bool true] w fun e w' => e = .returned (.bool (decide (p ≠ 0 ∧ q ≠ 0 ∧ p ≠ q))) ∧ Drawn0 w w' := by
 have e0 : decide ((m : Int) < 0) = false := decide_eq_false (by omega); have e1 : decide (((n + 1 : Nat) : Int) < 0) = false := decide_eq_false (by omega); have e2 : decide ((m : Int) ≥ 12) = false := decide_eq_false (by omega); have e3 : decide (((n + 1 : Nat) : Int) ≥ 12) = false := decide_eq_false (by omega); have e4 : (((n + 1 : Nat) : Int) == 0) = false := by simp; omega
 have e5 : IntKind.i8.wrap (((n + 1 : Nat) : Int) - 1) = (n : Int) := by
  rw [show ((n + 1 : Nat) : Int) - 1 = (n : Int) by omega]; exact spec_l01Joint.w8 n (by omega)
 have q0 : ((m : Int) < 12) = True := eq_true (by omega); have q1 : (((n + 1 : Nat) : Int) < 12) = True := eq_true (by omega); have q2 : (0 ≤ (m : Int)) = True := eq_true (by omega); have q3 : (0 ≤ ((n + 1 : Nat) : Int)) = True := eq_true (by omega); have q5 : n < 12 := by omega
 generalize hN : n + 1 = N at *
 go_enter Try.func14, Try.ntmps14
 go_wp2_with fail
 go_region_with (go_at_call 24; refine (spec_l01Joint.less _ _ _).mono ?_; rintro e w' ⟨rfl, rfl⟩)
 all_goals go_wp2_with fail
 all_goals (go_ret; exact ⟨by first | (simp_all; done) | (by_cases hpq : p = q <;> simp_all), spec_l01Joint.drew _⟩)
set_option maxHeartbeats 8000000 in
set_option maxRecDepth 100000 in
theorem spec_l01Joint.west (ad : Addr) (m n : Nat) (hm : m + 1 < 12) (hn : n < 12) (w : World) (p q : Int) (c0 : w.cell? ((ad.add (n * 12)).add (m + 1)) = some (.int .i64 p)) (c1 : w.cell? ((ad.add (n * 12)).add m) = some (.int .i64 q)) :
  Calls Try.prog 14 #[.pointer (some ad), .int .i8 ((m + 1 : Nat) : Int), .int .i8 (n : Int), .bool false] w fun e w' => e = .returned (.bool (decide (p ≠ 0 ∧ q ≠ 0 ∧ p ≠ q))) ∧ Drawn0 w w' := by
 have e0 : decide (((m + 1 : Nat) : Int) < 0) = false := decide_eq_false (by omega); have e1 : decide ((n : Int) < 0) = false := decide_eq_false (by omega); have e2 : decide (((m + 1 : Nat) : Int) ≥ 12) = false := decide_eq_false (by omega); have e3 : decide ((n : Int) ≥ 12) = false := decide_eq_false (by omega); have e4 : (((m + 1 : Nat) : Int) == 0) = false := by simp; omega
 have e5 : IntKind.i8.wrap (((m + 1 : Nat) : Int) - 1) = (m : Int) := by
  rw [show ((m + 1 : Nat) : Int) - 1 = (m : Int) by omega]; exact spec_l01Joint.w8 m (by omega)
 have q0 : (((m + 1 : Nat) : Int) < 12) = True := eq_true (by omega); have q1 : ((n : Int) < 12) = True := eq_true (by omega); have q2 : (0 ≤ ((m + 1 : Nat) : Int)) = True := eq_true (by omega); have q3 : (0 ≤ (n : Int)) = True := eq_true (by omega); have q5 : m < 12 := by omega
 generalize hN : m + 1 = N at *
 go_enter Try.func14, Try.ntmps14
 go_wp2_with fail
 go_region_with (go_at_call 24; refine (spec_l01Joint.less _ _ _).mono ?_; rintro e w' ⟨rfl, rfl⟩; try simp only [Bool.false_eq_true, if_false, e5])
 all_goals go_wp2_with fail
 all_goals (go_ret; exact ⟨by first | (simp_all; done) | (by_cases hpq : p = q <;> simp_all), spec_l01Joint.drew _⟩)
set_option maxHeartbeats 8000000 in
set_option maxRecDepth 100000 in
theorem spec_l01Joint.out (A0 : Option Addr) (x y : Int) (b : Bool) (w : World) (h : x < 0 ∨ y < 0 ∨ x ≥ 12 ∨ y ≥ 12 ∨ (b = true ∧ y = 0) ∨ (b = false ∧ x = 0)) :
  Calls Try.prog 14 #[.pointer A0, .int .i8 x, .int .i8 y, .bool b] w fun e w' => e = .returned (.bool false) ∧ Drawn0 w w' := by
 by_cases h0 : x < 0
 ·
  have e0 : decide (x < 0) = true := decide_eq_true h0
  go_enter Try.func14, Try.ntmps14
  go_wp2
  go_ret
  exact ⟨rfl, Drawn0.refl _⟩
 ·
  have e0 : decide (x < 0) = false := decide_eq_false h0
  by_cases h1 : y < 0
  ·
   have e1 : decide (y < 0) = true := decide_eq_true h1
   go_enter Try.func14, Try.ntmps14
   go_wp2
   go_ret
   exact ⟨rfl, Drawn0.refl _⟩
  ·
   have e1 : decide (y < 0) = false := decide_eq_false h1
   by_cases h2 : x ≥ 12
   ·
    have e2 : decide (x ≥ 12) = true := decide_eq_true h2
    go_enter Try.func14, Try.ntmps14
    go_wp2
    go_ret
    exact ⟨rfl, Drawn0.refl _⟩
   ·
    have e2 : decide (x ≥ 12) = false := decide_eq_false h2
    by_cases h3 : y ≥ 12
    ·
     have e3 : decide (y ≥ 12) = true := decide_eq_true h3
     go_enter Try.func14, Try.ntmps14
     go_wp2
     go_ret
     exact ⟨rfl, Drawn0.refl _⟩
    ·
     have e3 : decide (y ≥ 12) = false := decide_eq_false h3
     cases b with
     | true =>
      obtain rfl : y = 0 := by simp at h; omega
      go_enter Try.func14, Try.ntmps14
      go_wp2
      go_ret
      exact ⟨rfl, Drawn0.refl _⟩
     | false =>
      obtain rfl : x = 0 := by simp at h; omega
      go_enter Try.func14, Try.ntmps14
      go_wp2
      go_ret
      exact ⟨rfl, Drawn0.refl _⟩
theorem spec_l01Joint.calls (A0 : Option Addr) (c0 : Nat) (l0 : List Int) (a1 a2 : Int) (a3 : Bool) (r : Bool) (w : World) (hr0 : Kd.C (Kd.int .i64) w A0 l0.length l0) (hc0 : l0.length ≤ c0) (h : spec_l01Joint.f l0 a1 a2 a3 = some r) :
  Calls Try.prog 14 #[.pointer A0, .int .i8 a1, .int .i8 a2, .bool a3] w fun e w' => e = .returned (.bool r) ∧ Drawn0 w w' := by
 unfold spec_l01Joint.f at h
 by_cases hl : l0.length = 144
 ·
  rw [if_pos hl] at h; obtain rfl := Option.some.inj h; clear h
  unfold spec_l01Joint.v
  by_cases hc : a1 < 0 ∨ a2 < 0 ∨ a1 ≥ 12 ∨ a2 ≥ 12 ∨ (a3 = true ∧ a2 = 0) ∨ (a3 = false ∧ a1 = 0)
  ·
   rw [if_pos hc]; exact spec_l01Joint.out A0 a1 a2 a3 w hc
  ·
   rw [if_neg hc]; obtain ⟨ad, rfl, hcell⟩ := hr0.2.2 (by omega); have cell : ∀ a b : Nat, a * 12 + b < 144 → w.cell? ((ad.add (a * 12)).add b) = some (.int .i64 (rd l0 ((a : Int) * 12 + (b : Int)))) := by
    intro a b hab; have hlt : a * 12 + b < l0.length := by omega
    obtain ⟨c, hcl, hk, hu⟩ := hcell (a * 12 + b) _ (List.getElem?_eq_getElem hlt); obtain rfl : c = [.int .i64 l0[a * 12 + b]] := hk; have h1 : w.cell? (ad.add ((a * 12 + b) * 1 + 0)) = some (.int .i64 l0[a * 12 + b]) := hu 0 _ rfl; have e : (a : Int) * 12 + (b : Int) = ((a * 12 + b : Nat) : Int) := by omega
    have h2 : rd l0 ((a * 12 + b : Nat) : Int) = l0[a * 12 + b] := by
     unfold rd
     rw [Int.toNat_natCast, List.getD_eq_getElem?_getD, List.getElem?_eq_getElem hlt]
     rfl
    rw [e, h2, Addr.add_add]; rw [show (a * 12 + b) * 1 + 0 = a * 12 + b by omega] at h1; exact h1
   obtain ⟨m, rfl⟩ := Int.eq_ofNat_of_zero_le (show 0 ≤ a1 by omega); obtain ⟨n, rfl⟩ := Int.eq_ofNat_of_zero_le (show 0 ≤ a2 by omega)
   cases a3 with
   | true =>
    obtain ⟨n, rfl⟩ : ∃ z, n = z + 1 := ⟨n - 1, by simp at hc; omega⟩
    refine (spec_l01Joint.north ad m n (by omega) (by omega) w _ _ (cell (n + 1) m (by omega)) (cell n m (by omega))).mono ?_; rintro e w' ⟨he, hd⟩; refine ⟨?_, hd⟩; rw [he]
    unfold spec_l01Joint.o
    rw [if_pos rfl, show ((n + 1 : Nat) : Int) - 1 = (n : Int) by omega]
   | false =>
    obtain ⟨m, rfl⟩ : ∃ z, m = z + 1 := ⟨m - 1, by simp at hc; omega⟩
    refine (spec_l01Joint.west ad m n (by omega) (by omega) w _ _ (cell n (m + 1) (by omega)) (cell n m (by omega))).mono ?_; rintro e w' ⟨he, hd⟩; refine ⟨?_, hd⟩; rw [he]
    unfold spec_l01Joint.o
    rw [if_neg (by decide), show ((m + 1 : Nat) : Int) - 1 = (m : Int) by omega]
 ·
  rw [if_neg hl] at h
  cases h
end Go.Proofs.Ytnhggjaebeodaaa.Q
