-- Trimmed by a program.
import Derived.Test.YtnhggjaebeodaaaXQ0
import Derived.Test.YtnhggjaebeodaaaXQ13
namespace Go.Proofs.Ytnhggjaebeodaaa.Q
open Go.RowKit Go.Proofs.YtnhggjaebeodaaaW.PrintWords Go.Proofs.YtnhggjaebeodaaaW.PrintLast Go.Proofs.YtnhggjaebeodaaaW.PrintMore
attribute [local go_sem] max2_int min2_int max_two min_two max_three min_three max_four min_four
set_option linter.unusedVariables false
set_option linter.unusedSimpArgs false
def impl_Square_run.l0 : Nat → Int → Int → Bool → Int → Int → Int → List (S59) → Option (Int)
 | 0, _, _, _, _, _, _, _ => none
 | k + 1, x1, x2, x3, x9, x247000, x247001, x247002 => if x3 = true then (if x1 ≥ (wrap64 (x247000)) then (some x9) else ((impl_Square_joint.f k x247000 x247001 x247002 x1 (wrap64 (x2 - 1)) x1 x2).bind fun t247 => (if t247 = true then (impl_Square_run.l0 k (wrap64 (x1 + 1)) x2 x3 (wrap64 (x9 + 1)) x247000 x247001 x247002) else (some x9)))) else (if x2 ≥ (wrap64 (x247001)) then (some x9) else ((impl_Square_joint.f k x247000 x247001 x247002 (wrap64 (x1 - 1)) x2 x1 x2).bind fun t248 => (if t248 = true then (impl_Square_run.l0 k x1 (wrap64 (x2 + 1)) x3 (wrap64 (x9 + 1)) x247000 x247001 x247002) else (some x9))))
def impl_Square_run.f (k : Nat) (a0_0 : Int) (a0_1 : Int) (l0_2 : List (S59)) (a1 : Int) (a2 : Int) (a3 : Bool) : Option (Int) := impl_Square_run.l0 k a1 a2 a3 0 a0_0 a0_1 l0_2
theorem impl_Square_run.mono_l : ∀ k, (∀ y0 y1 y2 y3 y4 y5 y6, LeO (impl_Square_run.l0 k y0 y1 y2 y3 y4 y5 y6) (impl_Square_run.l0 (k + 1) y0 y1 y2 y3 y4 y5 y6))
 | 0 => fun _ _ _ _ _ _ _ r h => by simp [impl_Square_run.l0] at h
 | k + 1 => by
  have ih0 := impl_Square_run.mono_l k
  ·
   intro y0 y1 y2 y3 y4 y5 y6
   unfold impl_Square_run.l0
   repeat' first
   | (with_reducible exact ih0 _ _ _ _ _ _ _)
   | (with_reducible exact impl_Square_joint.mono _ _ _ _ _ _ _ _)
   | (with_reducible exact LeO.refl _)
   | (with_reducible exact LeO.none _)
   | (with_reducible refine LeO.ite ?_ ?_)
   | (with_reducible refine LeO.bind ?_ (fun _ => ?_))
   | exact ih0 _ _ _ _ _ _ _
   | exact impl_Square_joint.mono _ _ _ _ _ _ _ _
   | exact LeO.none _
   | refine LeO.ite ?_ ?_
   | refine LeO.bind ?_ (fun _ => ?_)
theorem impl_Square_run.mono : ∀ a0 a1 a2 a3 a4 a5 k, LeO (impl_Square_run.f k a0 a1 a2 a3 a4 a5) (impl_Square_run.f (k + 1) a0 a1 a2 a3 a4 a5) := by
 intro a0 a1 a2 a3 a4 a5 k; have ih0 := impl_Square_run.mono_l k
 unfold impl_Square_run.f
 repeat' first
   | (with_reducible exact ih0 _ _ _ _ _ _ _)
   | (with_reducible exact impl_Square_joint.mono _ _ _ _ _ _ _ _)
   | (with_reducible exact LeO.refl _)
   | (with_reducible exact LeO.none _)
   | (with_reducible refine LeO.ite ?_ ?_)
   | (with_reducible refine LeO.bind ?_ (fun _ => ?_))
   | exact ih0 _ _ _ _ _ _ _
   | exact impl_Square_joint.mono _ _ _ _ _ _ _ _
   | exact LeO.none _
   | refine LeO.ite ?_ ?_
   | refine LeO.bind ?_ (fun _ => ?_)
set_option maxHeartbeats 8000000 in
set_option maxRecDepth 100000 in
theorem impl_Square_run.calls (k : Nat) (a0_0 : Int) (a0_1 : Int) (A0_2 : Option Addr) (c0_2 : Nat) (l0_2 : List (S59)) (a1 : Int) (a2 : Int) (a3 : Bool) (r : Int) (w : World) (hr0_2 : Kd.C k59 w A0_2 l0_2.length l0_2) (hc0_2 : l0_2.length ≤ c0_2) (h : impl_Square_run.f k a0_0 a0_1 l0_2 a1 a2 a3 = some r) :
  Calls Try.prog 19 #[.agg #[.int .i8 a0_0, .int .i8 a0_1, .slice A0_2 l0_2.length c0_2], .int .i64 a1, .int .i64 a2, .bool a3] w fun e w' => e = .returned (.int .i64 r) ∧ Below w.heap.size w w' := by
 have hu33 := Try.underlying33; have HR0_2 := am_ hr0_2; have HC0_2 := am_ hc0_2; clear hr0_2 hc0_2; have HB := am_ (Below.refl w.heap.size w); have H : (impl_Square_run.l0 k a1 a2 a3 0 a0_0 a0_1 l0_2) = some r := h; clear h; have H' := am_ H; clear H
 go_enter Try.func19, Try.ntmps19
 go_wp2_with (first | ((with_reducible refine gate_dst (N := 4) rfl ?_); refine box_event ?hg (N := 4) ?hd (cs := #[.int .i8 a0_0, .int .i8 a0_1, .slice A0_2 l0_2.length c0_2]) (t := 33) ?hr ?_; (case hd => rfl); (case hg => rfl); (case hr => first | (go_simp; done) | (go_simp; rfl)); intro gb246 hg w5 hbox hb; have n0_ := am_ (bT_ (by repeat (first | (with_reducible first | exact HB.out | apply bA_ | apply bN_ | apply bD_) | exact HB.out)) hb); have n1_ := am_ (hbox); have n2_ := am_ ((by rw [hg]; exact (bZ_ (by repeat (first | (with_reducible first | exact HB.out | apply bA_ | apply bN_ | apply bD_) | exact HB.out))) : w.heap.size ≤ gb246)); have n3_ := n2_; clear HB; have HB := n0_; have BK246 := n1_; have GW246 := n2_; have GE246 := n3_; clear n0_ n1_ n2_ n3_; clear hb hbox hg))
 go_loopg [1, 2, 9] k (fun kq v1 v2 v9 w' => ∃ (x1_1 : Int) (x2_1 : Int) (x9_1 : Int), v1 = .int .i64 x1_1 ∧ v2 = .int .i64 x2_1 ∧ v9 = .int .i64 x9_1 ∧ Aside0 (impl_Square_run.l0 kq x1_1 x2_1 a3 x9_1 a0_0 a0_1 l0_2 = some r) ∧ Aside0 (kq ≤ k) ∧ Aside0 (w'.heap[gb246]? = some (.cells #[.int .i8 a0_0, .int .i8 a0_1, (.slice A0_2 l0_2.length c0_2)] 33 (0, 0))) ∧ Aside0 (Below w.heap.size w w'))
 case atStart => exact ⟨(a1), (a2), (0), (by first | rfl | (simp; done) | (simp [*]; done)), (by first | rfl | (simp; done) | (simp [*]; done)), (by first | rfl | (simp; done) | (simp [*]; done)), H', ⟨Nat.le_refl _⟩, ⟨by (with_reducible repeat (first | apply kN_ | apply kD_ | apply kA_)); exact BK246.out⟩, ⟨by repeat (first | (with_reducible first | exact HB.out | apply bA_ | apply bN_ | apply bD_ | refine bS_ ?_ GE246.out) | exact HB.out)⟩⟩
 case round =>
  clear H'; (try clear c1); (try clear p2); obtain ⟨x1_1, x2_1, x9_1, rfl, rfl, rfl, HA, HK1, BK246, HB⟩ := hrel
  cases gk with
  | zero => exact absurd HA.out (by simp [impl_Square_run.l0])
  | succ k1 =>
   have H := HA.out; clear HA; simp only [impl_Square_run.l0] at H
   by_cases c6 : a3 = true
   ·
    subst c6; have H1 : (if x1_1 ≥ (wrap64 (a0_0)) then (some x9_1) else ((impl_Square_joint.f k1 a0_0 a0_1 l0_2 x1_1 (wrap64 (x2_1 - 1)) x1_1 x2_1).bind fun t247 => (if t247 = true then (impl_Square_run.l0 k1 (wrap64 (x1_1 + 1)) x2_1 true (wrap64 (x9_1 + 1)) a0_0 a0_1 l0_2) else (some x9_1)))) = some r := by rw [if_pos rfl] at H; exact H
    clear H; have H := H1; clear H1
    by_cases c7 : x1_1 ≥ (wrap64 (a0_0))
    ·
     rw [if_pos c7] at H; have c7b0 : decide ((wrap64 (a0_0)) ≤ x1_1) = true := decide_eq_true c7; clear c7; obtain rfl := Option.some.inj H; have hcz8_0 : wr.cell? ⟨gb246, 0, none⟩ = some (.int .i8 a0_0) := (kC_ BK246.out 0).trans rfl; have hcz8_1 : wr.cell? ⟨gb246, 1, none⟩ = some (.int .i8 a0_1) := (kC_ BK246.out 1).trans rfl; have hcz8_2 : wr.cell? ⟨gb246, 2, none⟩ = some (.slice A0_2 l0_2.length c0_2) := (kC_ BK246.out 2).trans rfl; have hfz8_0 := kF_ BK246.out 0; have hfz8_1 := kF_ BK246.out 1; have hfz8_2 := kF_ BK246.out 2
     go_wp2
     go_ret
     exact ⟨by first | rfl | (simp [errW_none, errW_some] <;> rfl) | (simp [*, errW_none, errW_some] <;> rfl), by repeat (first | (with_reducible first | exact HB.out | apply bA_ | apply bN_ | apply bD_ | refine bS_ ?_ GE246.out) | exact HB.out)⟩
    ·
     rw [if_neg c7] at H; have c7b0 : decide ((wrap64 (a0_0)) ≤ x1_1) = false := decide_eq_false c7; clear c7; replace H := Option.bind_eq_some_iff.mp H; obtain ⟨t247, A90, H⟩ := H; replace H : (if t247 = true then (impl_Square_run.l0 k1 (wrap64 (x1_1 + 1)) x2_1 true (wrap64 (x9_1 + 1)) a0_0 a0_1 l0_2) else (some x9_1)) = some r := H; have A9 := am_ A90; clear A90
     by_cases c10 : t247 = true
     ·
      subst c10; have H1 : (impl_Square_run.l0 k1 (wrap64 (x1_1 + 1)) x2_1 true (wrap64 (x9_1 + 1)) a0_0 a0_1 l0_2) = some r := by rw [if_pos rfl] at H; exact H
      clear H; have H := H1; clear H1; have H' := am_ H; clear H; have hcz11_0 : wr.cell? ⟨gb246, 0, none⟩ = some (.int .i8 a0_0) := (kC_ BK246.out 0).trans rfl; have hcz11_1 : wr.cell? ⟨gb246, 1, none⟩ = some (.int .i8 a0_1) := (kC_ BK246.out 1).trans rfl; have hcz11_2 : wr.cell? ⟨gb246, 2, none⟩ = some (.slice A0_2 l0_2.length c0_2) := (kC_ BK246.out 2).trans rfl; have hfz11_0 := kF_ BK246.out 0; have hfz11_1 := kF_ BK246.out 1; have hfz11_2 := kF_ BK246.out 2
      go_wp2_with (first | (go_at_call 31; (with_reducible refine (impl_Square_joint.calls k1 a0_0 a0_1 _ _ l0_2 x1_1 (wrap64 (x2_1 - 1)) x1_1 x2_1 true _ ?side1 ?side2 A9.out).mono ?_); (case side1 => repeat (first | exact (cB_ HR0_2.out HB.out) | (with_reducible refine Kd.C_alloc ?_ _) | (with_reducible refine Kd.C_drewN ?_ _) | (with_reducible refine Kd.C_drew ?_))); (case side2 => exact HC0_2.out); rintro e w12 ⟨rfl, hb⟩; have n0_ := am_ (kB_ (g := gb246) (o := .cells #[.int .i8 a0_0, .int .i8 a0_1, .slice A0_2 l0_2.length c0_2] 33 (0, 0)) (by (with_reducible repeat (first | apply kN_ | apply kD_ | apply kA_)); exact BK246.out) hb); have n1_ := am_ (bT_ (by repeat (first | (with_reducible first | exact HB.out | apply bA_ | apply bN_ | apply bD_ | refine bS_ ?_ GE246.out) | exact HB.out)) hb); clear BK246; clear HB; have BK246 := n0_; have HB := n1_; clear n0_ n1_; (try clear hb); (try clear hb2); (try clear hk); (try clear hi)))
      go_roundg k1
      case measure => have := HK1.out; omega
      case rel => exact ⟨(wrap64 (x1_1 + 1)), (x2_1), (wrap64 (x9_1 + 1)), (by first | rfl | (simp; done) | (simp [*]; done)), (by first | rfl | (simp; done) | (simp [*]; done)), (by first | rfl | (simp; done) | (simp [*]; done)), H', ⟨by have := HK1.out; omega⟩, ⟨by (with_reducible repeat (first | apply kN_ | apply kD_ | apply kA_)); exact BK246.out⟩, ⟨by repeat (first | (with_reducible first | exact HB.out | apply bA_ | apply bN_ | apply bD_ | refine bS_ ?_ GE246.out) | exact HB.out)⟩⟩
     ·
      replace c10 := Bool.eq_false_iff.mpr c10; subst c10; have H1 : (some x9_1) = some r := by rw [if_neg (show ¬ (false = true) by decide)] at H; exact H
      clear H; have H := H1; clear H1; obtain rfl := Option.some.inj H; have hcz13_0 : wr.cell? ⟨gb246, 0, none⟩ = some (.int .i8 a0_0) := (kC_ BK246.out 0).trans rfl; have hcz13_1 : wr.cell? ⟨gb246, 1, none⟩ = some (.int .i8 a0_1) := (kC_ BK246.out 1).trans rfl; have hcz13_2 : wr.cell? ⟨gb246, 2, none⟩ = some (.slice A0_2 l0_2.length c0_2) := (kC_ BK246.out 2).trans rfl; have hfz13_0 := kF_ BK246.out 0; have hfz13_1 := kF_ BK246.out 1; have hfz13_2 := kF_ BK246.out 2
      go_wp2_with (first | (go_at_call 31; (with_reducible refine (impl_Square_joint.calls k1 a0_0 a0_1 _ _ l0_2 x1_1 (wrap64 (x2_1 - 1)) x1_1 x2_1 false _ ?side1 ?side2 A9.out).mono ?_); (case side1 => repeat (first | exact (cB_ HR0_2.out HB.out) | (with_reducible refine Kd.C_alloc ?_ _) | (with_reducible refine Kd.C_drewN ?_ _) | (with_reducible refine Kd.C_drew ?_))); (case side2 => exact HC0_2.out); rintro e w14 ⟨rfl, hb⟩; have n0_ := am_ (kB_ (g := gb246) (o := .cells #[.int .i8 a0_0, .int .i8 a0_1, .slice A0_2 l0_2.length c0_2] 33 (0, 0)) (by (with_reducible repeat (first | apply kN_ | apply kD_ | apply kA_)); exact BK246.out) hb); have n1_ := am_ (bT_ (by repeat (first | (with_reducible first | exact HB.out | apply bA_ | apply bN_ | apply bD_ | refine bS_ ?_ GE246.out) | exact HB.out)) hb); clear BK246; clear HB; have BK246 := n0_; have HB := n1_; clear n0_ n1_; (try clear hb); (try clear hb2); (try clear hk); (try clear hi)))
      go_ret
      exact ⟨by first | rfl | (simp [errW_none, errW_some] <;> rfl) | (simp [*, errW_none, errW_some] <;> rfl), by repeat (first | (with_reducible first | exact HB.out | apply bA_ | apply bN_ | apply bD_ | refine bS_ ?_ GE246.out) | exact HB.out)⟩
   ·
    replace c6 := Bool.eq_false_iff.mpr c6; subst c6; have H1 : (if x2_1 ≥ (wrap64 (a0_1)) then (some x9_1) else ((impl_Square_joint.f k1 a0_0 a0_1 l0_2 (wrap64 (x1_1 - 1)) x2_1 x1_1 x2_1).bind fun t248 => (if t248 = true then (impl_Square_run.l0 k1 x1_1 (wrap64 (x2_1 + 1)) false (wrap64 (x9_1 + 1)) a0_0 a0_1 l0_2) else (some x9_1)))) = some r := by rw [if_neg (show ¬ (false = true) by decide)] at H; exact H
    clear H; have H := H1; clear H1
    by_cases c15 : x2_1 ≥ (wrap64 (a0_1))
    ·
     rw [if_pos c15] at H; have c15b0 : decide ((wrap64 (a0_1)) ≤ x2_1) = true := decide_eq_true c15; clear c15; obtain rfl := Option.some.inj H; have hcz16_0 : wr.cell? ⟨gb246, 0, none⟩ = some (.int .i8 a0_0) := (kC_ BK246.out 0).trans rfl; have hcz16_1 : wr.cell? ⟨gb246, 1, none⟩ = some (.int .i8 a0_1) := (kC_ BK246.out 1).trans rfl; have hcz16_2 : wr.cell? ⟨gb246, 2, none⟩ = some (.slice A0_2 l0_2.length c0_2) := (kC_ BK246.out 2).trans rfl; have hfz16_0 := kF_ BK246.out 0; have hfz16_1 := kF_ BK246.out 1; have hfz16_2 := kF_ BK246.out 2
     go_wp2
     go_ret
     exact ⟨by first | rfl | (simp [errW_none, errW_some] <;> rfl) | (simp [*, errW_none, errW_some] <;> rfl), by repeat (first | (with_reducible first | exact HB.out | apply bA_ | apply bN_ | apply bD_ | refine bS_ ?_ GE246.out) | exact HB.out)⟩
    ·
     rw [if_neg c15] at H; have c15b0 : decide ((wrap64 (a0_1)) ≤ x2_1) = false := decide_eq_false c15; clear c15; replace H := Option.bind_eq_some_iff.mp H; obtain ⟨t248, A170, H⟩ := H; replace H : (if t248 = true then (impl_Square_run.l0 k1 x1_1 (wrap64 (x2_1 + 1)) false (wrap64 (x9_1 + 1)) a0_0 a0_1 l0_2) else (some x9_1)) = some r := H; have A17 := am_ A170; clear A170
     by_cases c18 : t248 = true
     ·
      subst c18; have H1 : (impl_Square_run.l0 k1 x1_1 (wrap64 (x2_1 + 1)) false (wrap64 (x9_1 + 1)) a0_0 a0_1 l0_2) = some r := by rw [if_pos rfl] at H; exact H
      clear H; have H := H1; clear H1; have H' := am_ H; clear H; have hcz19_0 : wr.cell? ⟨gb246, 0, none⟩ = some (.int .i8 a0_0) := (kC_ BK246.out 0).trans rfl; have hcz19_1 : wr.cell? ⟨gb246, 1, none⟩ = some (.int .i8 a0_1) := (kC_ BK246.out 1).trans rfl; have hcz19_2 : wr.cell? ⟨gb246, 2, none⟩ = some (.slice A0_2 l0_2.length c0_2) := (kC_ BK246.out 2).trans rfl; have hfz19_0 := kF_ BK246.out 0; have hfz19_1 := kF_ BK246.out 1; have hfz19_2 := kF_ BK246.out 2
      go_wp2_with (first | (go_at_call 31; (with_reducible refine (impl_Square_joint.calls k1 a0_0 a0_1 _ _ l0_2 (wrap64 (x1_1 - 1)) x2_1 x1_1 x2_1 true _ ?side1 ?side2 A17.out).mono ?_); (case side1 => repeat (first | exact (cB_ HR0_2.out HB.out) | (with_reducible refine Kd.C_alloc ?_ _) | (with_reducible refine Kd.C_drewN ?_ _) | (with_reducible refine Kd.C_drew ?_))); (case side2 => exact HC0_2.out); rintro e w20 ⟨rfl, hb⟩; have n0_ := am_ (kB_ (g := gb246) (o := .cells #[.int .i8 a0_0, .int .i8 a0_1, .slice A0_2 l0_2.length c0_2] 33 (0, 0)) (by (with_reducible repeat (first | apply kN_ | apply kD_ | apply kA_)); exact BK246.out) hb); have n1_ := am_ (bT_ (by repeat (first | (with_reducible first | exact HB.out | apply bA_ | apply bN_ | apply bD_ | refine bS_ ?_ GE246.out) | exact HB.out)) hb); clear BK246; clear HB; have BK246 := n0_; have HB := n1_; clear n0_ n1_; (try clear hb); (try clear hb2); (try clear hk); (try clear hi)))
      go_roundg k1
      case measure => have := HK1.out; omega
      case rel => exact ⟨(x1_1), (wrap64 (x2_1 + 1)), (wrap64 (x9_1 + 1)), (by first | rfl | (simp; done) | (simp [*]; done)), (by first | rfl | (simp; done) | (simp [*]; done)), (by first | rfl | (simp; done) | (simp [*]; done)), H', ⟨by have := HK1.out; omega⟩, ⟨by (with_reducible repeat (first | apply kN_ | apply kD_ | apply kA_)); exact BK246.out⟩, ⟨by repeat (first | (with_reducible first | exact HB.out | apply bA_ | apply bN_ | apply bD_ | refine bS_ ?_ GE246.out) | exact HB.out)⟩⟩
     ·
      replace c18 := Bool.eq_false_iff.mpr c18; subst c18; have H1 : (some x9_1) = some r := by rw [if_neg (show ¬ (false = true) by decide)] at H; exact H
      clear H; have H := H1; clear H1; obtain rfl := Option.some.inj H; have hcz21_0 : wr.cell? ⟨gb246, 0, none⟩ = some (.int .i8 a0_0) := (kC_ BK246.out 0).trans rfl; have hcz21_1 : wr.cell? ⟨gb246, 1, none⟩ = some (.int .i8 a0_1) := (kC_ BK246.out 1).trans rfl; have hcz21_2 : wr.cell? ⟨gb246, 2, none⟩ = some (.slice A0_2 l0_2.length c0_2) := (kC_ BK246.out 2).trans rfl; have hfz21_0 := kF_ BK246.out 0; have hfz21_1 := kF_ BK246.out 1; have hfz21_2 := kF_ BK246.out 2
      go_wp2_with (first | (go_at_call 31; (with_reducible refine (impl_Square_joint.calls k1 a0_0 a0_1 _ _ l0_2 (wrap64 (x1_1 - 1)) x2_1 x1_1 x2_1 false _ ?side1 ?side2 A17.out).mono ?_); (case side1 => repeat (first | exact (cB_ HR0_2.out HB.out) | (with_reducible refine Kd.C_alloc ?_ _) | (with_reducible refine Kd.C_drewN ?_ _) | (with_reducible refine Kd.C_drew ?_))); (case side2 => exact HC0_2.out); rintro e w22 ⟨rfl, hb⟩; have n0_ := am_ (kB_ (g := gb246) (o := .cells #[.int .i8 a0_0, .int .i8 a0_1, .slice A0_2 l0_2.length c0_2] 33 (0, 0)) (by (with_reducible repeat (first | apply kN_ | apply kD_ | apply kA_)); exact BK246.out) hb); have n1_ := am_ (bT_ (by repeat (first | (with_reducible first | exact HB.out | apply bA_ | apply bN_ | apply bD_ | refine bS_ ?_ GE246.out) | exact HB.out)) hb); clear BK246; clear HB; have BK246 := n0_; have HB := n1_; clear n0_ n1_; (try clear hb); (try clear hb2); (try clear hk); (try clear hi)))
      go_ret
      exact ⟨by first | rfl | (simp [errW_none, errW_some] <;> rfl) | (simp [*, errW_none, errW_some] <;> rfl), by repeat (first | (with_reducible first | exact HB.out | apply bA_ | apply bN_ | apply bD_ | refine bS_ ?_ GE246.out) | exact HB.out)⟩
def impl_LongestJoint_1.f (a0 : Int) (a1 : Int) : Option (Bool) := some true
set_option maxHeartbeats 8000000 in
set_option maxRecDepth 100000 in
theorem impl_LongestJoint_1.calls (a0 : Int) (a1 : Int) (r : Bool) (w : World) (h : impl_LongestJoint_1.f a0 a1 = some r) :
  Calls Try.prog 18 #[.int .i64 a0, .int .i64 a1] w fun e w' => e = .returned (.bool r) ∧ Drawn0 w w' := by
 have H : (some true) = some r := h; clear h; obtain rfl := Option.some.inj H
 go_enter Try.func18, Try.ntmps18
 go_wp2
 go_ret
 exact ⟨by first | rfl | (simp; done) | (simp [*]; done), by repeat (first | exact Drawn0.refl _ | apply Drawn0.step)⟩
mutual
def impl_Square_cells_at_impl_LongestJoint_1.l0 : Nat → List (S28) → Int → Int → Int → Int → List (S59) → Option ((List (S28)))
 | 0, _, _, _, _, _, _ => none
 | k + 1, x5, x11, x12, x254000, x254001, x254002 => if x12 < x11 then (impl_Square_cells_at_impl_LongestJoint_1.l1 k x5 x12 x11 x12 (wrap64 (x254000)) 0 x254000 x254001 x254002) else (some x5)
def impl_Square_cells_at_impl_LongestJoint_1.l1 : Nat → List (S28) → Int → Int → Int → Int → Int → Int → Int → List (S59) → Option ((List (S28)))
 | 0, _, _, _, _, _, _, _, _, _ => none
 | k + 1, x5, x6, x11, x12, x17, x18, x254000, x254001, x254002 => if x18 < x17 then ((impl_LongestJoint_1.f x18 x6).bind fun t257 => (if t257 = true then (if x5.length < 70368744177664 then (impl_Square_cells_at_impl_LongestJoint_1.l1 k (x5 ++ [(⟨IntKind.i8.wrap (x18), IntKind.i8.wrap (x6)⟩ : S28)]) x6 x11 x12 x17 (wrap64 (x18 + 1)) x254000 x254001 x254002) else (none)) else (impl_Square_cells_at_impl_LongestJoint_1.l1 k x5 x6 x11 x12 x17 (wrap64 (x18 + 1)) x254000 x254001 x254002))) else (impl_Square_cells_at_impl_LongestJoint_1.l0 k x5 x11 (wrap64 (x12 + 1)) x254000 x254001 x254002)
end
def impl_Square_cells_at_impl_LongestJoint_1.f (k : Nat) (a0_0 : Int) (a0_1 : Int) (l0_2 : List (S59))  : Option ((List (S28))) := impl_Square_cells_at_impl_LongestJoint_1.l0 k (([] : List (S28))) (wrap64 (a0_1)) 0 a0_0 a0_1 l0_2
theorem impl_Square_cells_at_impl_LongestJoint_1.mono_l : ∀ k, (∀ y0 y1 y2 y3 y4 y5, LeO (impl_Square_cells_at_impl_LongestJoint_1.l0 k y0 y1 y2 y3 y4 y5) (impl_Square_cells_at_impl_LongestJoint_1.l0 (k + 1) y0 y1 y2 y3 y4 y5)) ∧ (∀ y0 y1 y2 y3 y4 y5 y6 y7 y8, LeO (impl_Square_cells_at_impl_LongestJoint_1.l1 k y0 y1 y2 y3 y4 y5 y6 y7 y8) (impl_Square_cells_at_impl_LongestJoint_1.l1 (k + 1) y0 y1 y2 y3 y4 y5 y6 y7 y8))
 | 0 => ⟨fun _ _ _ _ _ _ r h => by simp [impl_Square_cells_at_impl_LongestJoint_1.l0] at h, fun _ _ _ _ _ _ _ _ _ r h => by simp [impl_Square_cells_at_impl_LongestJoint_1.l1] at h⟩
 | k + 1 => by
  obtain ⟨ih0, ih1⟩ := impl_Square_cells_at_impl_LongestJoint_1.mono_l k; refine ⟨?_, ?_⟩
  ·
   intro y0 y1 y2 y3 y4 y5
   unfold impl_Square_cells_at_impl_LongestJoint_1.l0
   repeat' first
   | (with_reducible exact ih0 _ _ _ _ _ _)
   | (with_reducible exact ih1 _ _ _ _ _ _ _ _ _)
   | (with_reducible exact LeO.refl _)
   | (with_reducible exact LeO.none _)
   | (with_reducible refine LeO.ite ?_ ?_)
   | (with_reducible refine LeO.bind ?_ (fun _ => ?_))
   | exact ih0 _ _ _ _ _ _
   | exact ih1 _ _ _ _ _ _ _ _ _
   | exact LeO.none _
   | refine LeO.ite ?_ ?_
   | refine LeO.bind ?_ (fun _ => ?_)
  ·
   intro y0 y1 y2 y3 y4 y5 y6 y7 y8
   unfold impl_Square_cells_at_impl_LongestJoint_1.l1
   repeat' first
   | (with_reducible exact ih0 _ _ _ _ _ _)
   | (with_reducible exact ih1 _ _ _ _ _ _ _ _ _)
   | (with_reducible exact LeO.refl _)
   | (with_reducible exact LeO.none _)
   | (with_reducible refine LeO.ite ?_ ?_)
   | (with_reducible refine LeO.bind ?_ (fun _ => ?_))
   | exact ih0 _ _ _ _ _ _
   | exact ih1 _ _ _ _ _ _ _ _ _
   | exact LeO.none _
   | refine LeO.ite ?_ ?_
   | refine LeO.bind ?_ (fun _ => ?_)
theorem impl_Square_cells_at_impl_LongestJoint_1.mono : ∀ a0 a1 a2 k, LeO (impl_Square_cells_at_impl_LongestJoint_1.f k a0 a1 a2) (impl_Square_cells_at_impl_LongestJoint_1.f (k + 1) a0 a1 a2) := by
 intro a0 a1 a2 k; obtain ⟨ih0, ih1⟩ := impl_Square_cells_at_impl_LongestJoint_1.mono_l k
 unfold impl_Square_cells_at_impl_LongestJoint_1.f
 repeat' first
   | (with_reducible exact ih0 _ _ _ _ _ _)
   | (with_reducible exact ih1 _ _ _ _ _ _ _ _ _)
   | (with_reducible exact LeO.refl _)
   | (with_reducible exact LeO.none _)
   | (with_reducible refine LeO.ite ?_ ?_)
   | (with_reducible refine LeO.bind ?_ (fun _ => ?_))
   | exact ih0 _ _ _ _ _ _
   | exact ih1 _ _ _ _ _ _ _ _ _
   | exact LeO.none _
   | refine LeO.ite ?_ ?_
   | refine LeO.bind ?_ (fun _ => ?_)
set_option maxHeartbeats 8000000 in
set_option maxRecDepth 100000 in
theorem impl_Square_cells_at_impl_LongestJoint_1.calls (k : Nat) (a0_0 : Int) (a0_1 : Int) (A0_2 : Option Addr) (c0_2 : Nat) (l0_2 : List (S59))  (r : List (S28)) (w : World) (hr0_2 : Kd.C k59 w A0_2 l0_2.length l0_2) (hc0_2 : l0_2.length ≤ c0_2) (h : impl_Square_cells_at_impl_LongestJoint_1.f k a0_0 a0_1 l0_2 = some r) :
  Calls Try.prog 17 #[.agg #[.int .i8 a0_0, .int .i8 a0_1, .slice A0_2 l0_2.length c0_2], .func (.func 18) #[] #[]] w fun e w' => ∃ v0_ : Value, e = .returned (v0_) ∧ Kd.R k28 28 w' w.heap.size (fun _ => True) v0_ r ∧ Below w.heap.size w w' := by
 have hu33 := Try.underlying33; have hu28 := Try.underlying28; have HR0_2 := am_ hr0_2; have HC0_2 := am_ hc0_2; clear hr0_2 hc0_2; have HB := am_ (Below.refl w.heap.size w); have H : (impl_Square_cells_at_impl_LongestJoint_1.l0 k (([] : List (S28))) (wrap64 (a0_1)) 0 a0_0 a0_1 l0_2) = some r := h; clear h; obtain ⟨y254, hy254⟩ : ∃ y_ : List (S28), y_ = (([] : List (S28))) := ⟨_, rfl⟩
 replace H : (impl_Square_cells_at_impl_LongestJoint_1.l0 k y254 (wrap64 (a0_1)) 0 a0_0 a0_1 l0_2) = some r := by first | (rw [hy254]; with_reducible exact H) | (have H2_ := (Option.bind_some _ _).symm.trans H; rw [hy254]; with_reducible exact H2_) | (have H2_ := (Option.bind_some _ _).symm.trans H; with_reducible exact H2_) | with_reducible exact H | (rw [hy254]; exact H) | exact H
 have Ny254 := am_ hy254; clear hy254; have H' := am_ H; clear H
 go_enter Try.func17, Try.ntmps17
 go_wp2_with (first | ((with_reducible refine gate_dst (N := 2) rfl ?_); refine box_event ?hg (N := 2) ?hd (cs := #[.int .i8 a0_0, .int .i8 a0_1, .slice A0_2 l0_2.length c0_2]) (t := 33) ?hr ?_; (case hd => rfl); (case hg => rfl); (case hr => first | (go_simp; done) | (go_simp; rfl)); intro gb253 hg w3 hbox hb; have n0_ := am_ (bT_ (by repeat (first | (with_reducible first | exact HB.out | apply bA_ | apply bN_ | apply bD_) | exact HB.out)) hb); have n1_ := am_ (hbox); have n2_ := am_ ((by rw [hg]; exact (bZ_ (by repeat (first | (with_reducible first | exact HB.out | apply bA_ | apply bN_ | apply bD_) | exact HB.out))) : w.heap.size ≤ gb253)); have n3_ := n2_; clear HB; have HB := n0_; have BK253 := n1_; have GW253 := n2_; have GE253 := n3_; clear n0_ n1_ n2_ n3_; clear hb hbox hg) | ((with_reducible refine gate_dst (N := 8) rfl ?_); refine Kd.R_lit k28 _ 28 ?hg (N := 8) ?hd (xs := ([] : List (S28))) (inner := []) (ok := fun _ => True) (okp := fun _ => True) ?hr ?hp (fun _ hk => hk) trivial (Below.refl _ _) (Nat.le_refl _) (by simp) ?_; (case hd => rfl); (case hg => rfl); (case hr => first | (go_simp; done) | (go_simp; rfl)); (case hp => exact (Reps.none _ _)); intro v255 w4 ho5 hb hg_ hnew_; clear hg_ hnew_; (first | rw [← Ny254.out] at ho5 | (simp only [Int.reduceToNat] at ho5; rw [← Ny254.out] at ho5)); have n0_ := am_ (Kd.R_lower ho5 (bZ_ (by repeat (first | (with_reducible first | exact HB.out | apply bA_ | apply bN_ | apply bD_ | refine bS_ ?_ GE253.out) | exact HB.out)))); have n1_ := am_ (kB_ (g := gb253) (o := .cells #[.int .i8 a0_0, .int .i8 a0_1, .slice A0_2 l0_2.length c0_2] 33 (0, 0)) (by (with_reducible repeat (first | apply kN_ | apply kD_ | apply kA_)); exact BK253.out) hb); have n2_ := am_ (bT_ (by repeat (first | (with_reducible first | exact HB.out | apply bA_ | apply bN_ | apply bD_ | refine bS_ ?_ GE253.out) | exact HB.out)) hb); clear BK253; clear HB; have HO256 := n0_; have BK253 := n1_; have HB := n2_; clear n0_ n1_ n2_; clear hb ho5; have hcz6_0 : w4.cell? ⟨gb253, 0, none⟩ = some (.int .i8 a0_0) := (kC_ BK253.out 0).trans rfl; have hcz6_1 : w4.cell? ⟨gb253, 1, none⟩ = some (.int .i8 a0_1) := (kC_ BK253.out 1).trans rfl; have hcz6_2 : w4.cell? ⟨gb253, 2, none⟩ = some (.slice A0_2 l0_2.length c0_2) := (kC_ BK253.out 2).trans rfl; have hfz6_0 := kF_ BK253.out 0; have hfz6_1 := kF_ BK253.out 1; have hfz6_2 := kF_ BK253.out 2))
 go_loopg [5, 12] k (fun kq v5 v12 w' => ∃ (x5_1 : List (S28)) (x12_1 : Int), v12 = .int .i64 x12_1 ∧ Aside0 (impl_Square_cells_at_impl_LongestJoint_1.l0 kq x5_1 (wrap64 (a0_1)) x12_1 a0_0 a0_1 l0_2 = some r) ∧ Aside0 (kq ≤ k) ∧ Aside0 (Kd.R k28 28 w' w.heap.size (fun _ => True) v5 x5_1) ∧ Aside0 (w'.heap[gb253]? = some (.cells #[.int .i8 a0_0, .int .i8 a0_1, (.slice A0_2 l0_2.length c0_2)] 33 (0, 0))) ∧ Aside0 (Below w.heap.size w w'))
 case atStart => exact ⟨(y254), (0), (by first | rfl | (simp; done) | (simp [*]; done)), H', ⟨Nat.le_refl _⟩, ⟨by (with_reducible repeat (first | apply Kd.R_alloc | apply Kd.R_drewN | apply Kd.R_drew)); exact HO256.out⟩, ⟨by (with_reducible repeat (first | apply kN_ | apply kD_ | apply kA_)); exact BK253.out⟩, ⟨by repeat (first | (with_reducible first | exact HB.out | apply bA_ | apply bN_ | apply bD_ | refine bS_ ?_ GE253.out) | exact HB.out)⟩⟩
 case round =>
  clear H'; (try clear p2); (try clear c6); (try clear p6); (try clear hcz6_0); (try clear hcz6_1); (try clear hcz6_2); (try clear hfz6_0); (try clear hfz6_1); (try clear hfz6_2); obtain ⟨x5_1, x12_1, rfl, HA, HK1, HO_5, BK253, HB⟩ := hrel
  cases gk with
  | zero => exact absurd HA.out (by simp [impl_Square_cells_at_impl_LongestJoint_1.l0])
  | succ k1 =>
   have H := HA.out; clear HA; simp only [impl_Square_cells_at_impl_LongestJoint_1.l0] at H
   by_cases c7 : x12_1 < (wrap64 (a0_1))
   ·
    rw [if_pos c7] at H; have c7b0 : decide (x12_1 < (wrap64 (a0_1))) = true := decide_eq_true c7; clear c7; have H' := am_ H; clear H; have hcz8_0 : wr.cell? ⟨gb253, 0, none⟩ = some (.int .i8 a0_0) := (kC_ BK253.out 0).trans rfl; have hcz8_1 : wr.cell? ⟨gb253, 1, none⟩ = some (.int .i8 a0_1) := (kC_ BK253.out 1).trans rfl; have hcz8_2 : wr.cell? ⟨gb253, 2, none⟩ = some (.slice A0_2 l0_2.length c0_2) := (kC_ BK253.out 2).trans rfl; have hfz8_0 := kF_ BK253.out 0; have hfz8_1 := kF_ BK253.out 1; have hfz8_2 := kF_ BK253.out 2
    go_wp2
    go_loopg [5, 18] k1 (fun kq v5 v18 w' => ∃ (x5_2 : List (S28)) (x18_2 : Int), v18 = .int .i64 x18_2 ∧ Aside0 (impl_Square_cells_at_impl_LongestJoint_1.l1 kq x5_2 x12_1 (wrap64 (a0_1)) x12_1 (wrap64 (a0_0)) x18_2 a0_0 a0_1 l0_2 = some r) ∧ Aside0 (kq ≤ k1) ∧ Aside0 (Kd.R k28 28 w' w.heap.size (fun _ => True) v5 x5_2) ∧ Aside0 (w'.heap[gb253]? = some (.cells #[.int .i8 a0_0, .int .i8 a0_1, (.slice A0_2 l0_2.length c0_2)] 33 (0, 0))) ∧ Aside0 (Below w.heap.size w w'))
    case atStart => exact ⟨(x5_1), (0), (by first | rfl | (simp; done) | (simp [*]; done)), H', ⟨Nat.le_refl _⟩, ⟨by (with_reducible repeat (first | apply Kd.R_alloc | apply Kd.R_drewN | apply Kd.R_drew)); exact HO_5.out⟩, ⟨by (with_reducible repeat (first | apply kN_ | apply kD_ | apply kA_)); exact BK253.out⟩, ⟨by repeat (first | (with_reducible first | exact HB.out | apply bA_ | apply bN_ | apply bD_ | refine bS_ ?_ GE253.out) | exact HB.out)⟩⟩
    case round =>
     clear H'; (try clear p2); (try clear c6); (try clear p6); (try clear c7); (try clear c7b0); (try clear hcz6_0); (try clear hcz6_1); (try clear hcz6_2); (try clear hcz8_0); (try clear hcz8_1); (try clear hcz8_2); (try clear hfz6_0); (try clear hfz6_1); (try clear hfz6_2); (try clear hfz8_0); (try clear hfz8_1); (try clear hfz8_2); (try clear p2); (try clear p6); obtain ⟨x5_2, x18_2, rfl, HA, HK2, HO_5, BK253, HB⟩ := hrel
     cases gk with
     | zero => exact absurd HA.out (by simp [impl_Square_cells_at_impl_LongestJoint_1.l1])
     | succ k2 =>
      have H := HA.out; clear HA; simp only [impl_Square_cells_at_impl_LongestJoint_1.l1] at H
      by_cases c9 : x18_2 < (wrap64 (a0_0))
      ·
       rw [if_pos c9] at H; have c9b0 : decide (x18_2 < (wrap64 (a0_0))) = true := decide_eq_true c9; clear c9; replace H := Option.bind_eq_some_iff.mp H; obtain ⟨t257, A100, H⟩ := H; replace H : (if t257 = true then (if x5_2.length < 70368744177664 then (impl_Square_cells_at_impl_LongestJoint_1.l1 k2 (x5_2 ++ [(⟨IntKind.i8.wrap (x18_2), IntKind.i8.wrap (x12_1)⟩ : S28)]) x12_1 (wrap64 (a0_1)) x12_1 (wrap64 (a0_0)) (wrap64 (x18_2 + 1)) a0_0 a0_1 l0_2) else (none)) else (impl_Square_cells_at_impl_LongestJoint_1.l1 k2 x5_2 x12_1 (wrap64 (a0_1)) x12_1 (wrap64 (a0_0)) (wrap64 (x18_2 + 1)) a0_0 a0_1 l0_2)) = some r := H; have A10 := am_ A100; clear A100
       by_cases c11 : t257 = true
       ·
        subst c11; have H1 : (if x5_2.length < 70368744177664 then (impl_Square_cells_at_impl_LongestJoint_1.l1 k2 (x5_2 ++ [(⟨IntKind.i8.wrap (x18_2), IntKind.i8.wrap (x12_1)⟩ : S28)]) x12_1 (wrap64 (a0_1)) x12_1 (wrap64 (a0_0)) (wrap64 (x18_2 + 1)) a0_0 a0_1 l0_2) else (none)) = some r := by rw [if_pos rfl] at H; exact H
        clear H; have H := H1; clear H1
        by_cases c12 : x5_2.length < 70368744177664
        ·
         rw [if_pos c12] at H; have LMc12 := am_ c12; clear c12; obtain ⟨y258, hy258⟩ : ∃ y_ : List (S28), y_ = (x5_2 ++ [(⟨IntKind.i8.wrap (x18_2), IntKind.i8.wrap (x12_1)⟩ : S28)]) := ⟨_, rfl⟩
         replace H : (impl_Square_cells_at_impl_LongestJoint_1.l1 k2 y258 x12_1 (wrap64 (a0_1)) x12_1 (wrap64 (a0_0)) (wrap64 (x18_2 + 1)) a0_0 a0_1 l0_2) = some r := by first | (rw [hy258]; with_reducible exact H) | (have H2_ := (Option.bind_some _ _).symm.trans H; rw [hy258]; with_reducible exact H2_) | (have H2_ := (Option.bind_some _ _).symm.trans H; with_reducible exact H2_) | with_reducible exact H | (rw [hy258]; exact H) | exact H
         have Ny258 := am_ hy258; clear hy258; have H' := am_ H; clear H
         go_wp2_with (first | (go_at_call 18; (with_reducible refine (impl_LongestJoint_1.calls x18_2 x12_1 true _ A10.out).mono ?_); rintro e w' ⟨rfl, ⟨nd, rfl⟩⟩) | ((with_reducible refine gate_builtin (b := .append) (xs := #[.tmp 25, .tmp 31]) rfl ?_); at_builtin; refine Kd.R_append k28 (w0 := w) w.heap.size rfl (.tmp 25) (.tmp 31) 46 28 (.agg #[(.int .i8 0), (.int .i8 0)]) 2 rfl Try.underlying46 info28 rfl (by decide) (by omega) u5 x5_2 (⟨IntKind.i8.wrap (x18_2), IntKind.i8.wrap (x12_1)⟩ : S28) [.int .i8 (IntKind.i8.wrap (x18_2)), .int .i8 (IntKind.i8.wrap (x12_1))] (fun _ => True) (fun _ => False) rfl rfl ?aP (fun _ hk => hk.elim) ?aF ?aO ?aB ?aS ?aL ?_; (case aP => exact k28_mkM _ _ _ (⟨IntKind.i8.wrap (x18_2), IntKind.i8.wrap (x12_1)⟩ : S28)); (case aB => exact (by repeat (first | (with_reducible first | exact HB.out | apply bA_ | apply bN_ | apply bD_ | refine bS_ ?_ GE253.out) | exact HB.out))); (case aF => exact (fun _ _ => trivial)); (case aO => exact (by (with_reducible repeat (first | apply Kd.R_alloc | apply Kd.R_drewN | apply Kd.R_drew)); exact HO_5.out)); (case aS => exact (bZ_ (by repeat (first | (with_reducible first | exact HB.out | apply bA_ | apply bN_ | apply bD_ | refine bS_ ?_ GE253.out) | exact HB.out)))); (case aL => have := LMc12.out; omega); intro v259 w13 ho hb hg hat; rw [← Ny258.out] at ho; have n0_ := am_ (blk_grown (g := gb253) (o := .cells #[.int .i8 a0_0, .int .i8 a0_1, .slice A0_2 l0_2.length c0_2] 33 (0, 0)) (by (with_reducible repeat (first | apply kN_ | apply kD_ | apply kA_)); exact BK253.out) hg (Kd.R_ne HO_5.out BK253.out (by decide))); have n1_ := am_ (hb); have n2_ := am_ (ho); clear BK253; clear HB; clear HO_5; have BK253 := n0_; have HB := n1_; have HO260 := n2_; clear n0_ n1_ n2_; clear ho hb hg hat))
         go_roundg k2
         case measure => have := HK1.out; have := HK2.out; omega
         case rel => exact ⟨(y258), (wrap64 (x18_2 + 1)), (by first | rfl | (simp; done) | (simp [*]; done)), H', ⟨by have := HK1.out; have := HK2.out; omega⟩, ⟨by (with_reducible repeat (first | apply Kd.R_alloc | apply Kd.R_drewN | apply Kd.R_drew)); exact HO260.out⟩, ⟨by (with_reducible repeat (first | apply kN_ | apply kD_ | apply kA_)); exact BK253.out⟩, ⟨by repeat (first | (with_reducible first | exact HB.out | apply bA_ | apply bN_ | apply bD_ | refine bS_ ?_ GE253.out) | exact HB.out)⟩⟩
        ·
         rw [if_neg c12] at H; exact absurd H (by simp)
       ·
        replace c11 := Bool.eq_false_iff.mpr c11; subst c11; have H1 : (impl_Square_cells_at_impl_LongestJoint_1.l1 k2 x5_2 x12_1 (wrap64 (a0_1)) x12_1 (wrap64 (a0_0)) (wrap64 (x18_2 + 1)) a0_0 a0_1 l0_2) = some r := by rw [if_neg (show ¬ (false = true) by decide)] at H; exact H
        clear H; have H := H1; clear H1; have H' := am_ H; clear H
        go_wp2_with (first | (go_at_call 18; (with_reducible refine (impl_LongestJoint_1.calls x18_2 x12_1 false _ A10.out).mono ?_); rintro e w' ⟨rfl, ⟨nd, rfl⟩⟩))
        go_roundg k2
        case measure => have := HK1.out; have := HK2.out; omega
        case rel => exact ⟨(x5_2), (wrap64 (x18_2 + 1)), (by first | rfl | (simp; done) | (simp [*]; done)), H', ⟨by have := HK1.out; have := HK2.out; omega⟩, ⟨by (with_reducible repeat (first | apply Kd.R_alloc | apply Kd.R_drewN | apply Kd.R_drew)); exact HO_5.out⟩, ⟨by (with_reducible repeat (first | apply kN_ | apply kD_ | apply kA_)); exact BK253.out⟩, ⟨by repeat (first | (with_reducible first | exact HB.out | apply bA_ | apply bN_ | apply bD_ | refine bS_ ?_ GE253.out) | exact HB.out)⟩⟩
      ·
       rw [if_neg c9] at H; have c9b0 : decide (x18_2 < (wrap64 (a0_0))) = false := decide_eq_false c9; clear c9; have H' := am_ H; clear H
       go_wp2
       go_roundg k2
       case measure => have := HK1.out; have := HK2.out; omega
       case rel => exact ⟨(x5_2), (wrap64 (x12_1 + 1)), (by first | rfl | (simp; done) | (simp [*]; done)), H', ⟨by have := HK1.out; have := HK2.out; omega⟩, ⟨by (with_reducible repeat (first | apply Kd.R_alloc | apply Kd.R_drewN | apply Kd.R_drew)); exact HO_5.out⟩, ⟨by (with_reducible repeat (first | apply kN_ | apply kD_ | apply kA_)); exact BK253.out⟩, ⟨by repeat (first | (with_reducible first | exact HB.out | apply bA_ | apply bN_ | apply bD_ | refine bS_ ?_ GE253.out) | exact HB.out)⟩⟩
   ·
    rw [if_neg c7] at H; have c7b0 : decide (x12_1 < (wrap64 (a0_1))) = false := decide_eq_false c7; clear c7; obtain rfl := Option.some.inj H
    go_wp2
    go_ret
    exact ⟨_, by first | rfl | (simp [errW_none, errW_some] <;> rfl) | (simp [*, errW_none, errW_some] <;> rfl), by (with_reducible repeat (first | apply Kd.R_alloc | apply Kd.R_drewN | apply Kd.R_drew)); exact HO_5.out, by repeat (first | (with_reducible first | exact HB.out | apply bA_ | apply bN_ | apply bD_ | refine bS_ ?_ GE253.out) | exact HB.out)⟩
end Go.Proofs.Ytnhggjaebeodaaa.Q
