-- By a program of this session's: of the print's words what this claim needs. Lean checks it.
import Derived.Test.YtpbobnpmiafbbaaXQ0
import Derived.Test.YtpbobnpmiafbbaaXQ1
import Derived.Test.YtpbobnpmiafbbaaXQ3
import Derived.Test.YtpbobnpmiafbbaaXQ5
import Derived.Test.YtpbobnpmiafbbaaXQ7
namespace Go.Proofs.Ytpbobnpmiafbbaa.Q
open Go.RowKit Go.Proofs.YtpbobnpmiafbbaaW.PrintWords Go.Proofs.YtpbobnpmiafbbaaW.PrintLast Go.Proofs.YtpbobnpmiafbbaaW.PrintMore
attribute [local go_sem] max2_int min2_int max_two min_two max_three min_three max_four min_four
set_option linter.unusedVariables false
set_option linter.unusedSimpArgs false
mutual
def spec_FewestSorts.l0 : Nat → List (S68) → List Int → Int → Bool → Int → Option (Int × Int)
 | 0, _, _, _, _, _ => none
 | k + 1, x0, x1, x2, x8, x9 => if x9 < (x1.length : Int) then (if x8 = true then (if 0 ≤ x9 then ((spec_l03Long.f (rd x1 x9)).bind fun t555 => (spec_FewestSorts.l0 k x0 x1 x2 t555 (wrap64 (x9 + 1)))) else (none)) else (spec_FewestSorts.l0 k x0 x1 x2 false (wrap64 (x9 + 1)))) else ((spec_l03Asked.f k x0 x8).bind fun t556 => (if t556 = 0 then (spec_FewestSorts.j1 k x0 x1 x2 t556 (decide ((x1.length : Int) > 8))) else (spec_FewestSorts.j1 k x0 x1 x2 t556 false)))
def spec_FewestSorts.j1 : Nat → List (S68) → List Int → Int → Int → Bool → Option (Int × Int)
 | 0, _, _, _, _, _ => none
 | k + 1, x0, x1, x2, x10, x45 => if x45 = true then (spec_FewestSorts.j2 k x0 x1 x2 3) else (spec_FewestSorts.j2 k x0 x1 x2 x10)
def spec_FewestSorts.j2 : Nat → List (S68) → List Int → Int → Int → Option (Int × Int)
 | 0, _, _, _, _ => none
 | k + 1, x0, x1, x2, x10 => if x10 = 0 then (spec_FewestSorts.l1 k x0 x1 x2 (-1) 0) else (some (0, x10))
def spec_FewestSorts.l1 : Nat → List (S68) → List Int → Int → Int → Int → Option (Int × Int)
 | 0, _, _, _, _, _ => none
 | k + 1, x0, x1, x2, x11, x12 => if 0 ≤ (IntKind.u64.wrap ((x0.length : Int))) then (if x12 < (shl .i64 1 (IntKind.u64.wrap ((x0.length : Int)))) then ((spec_l03Sorts.f k x0 x12).bind fun t557 => (if x11 ≥ 0 then (spec_FewestSorts.j4 k x0 x1 x2 x11 x12 t557 (t557.length : Int) (decide ((t557.length : Int) ≥ x11))) else (spec_FewestSorts.j4 k x0 x1 x2 x11 x12 t557 (t557.length : Int) false))) else (if x11 < 0 then (some (0, 6)) else (some (x11, 0)))) else (none)
def spec_FewestSorts.j4 : Nat → List (S68) → List Int → Int → Int → Int → List (S68) → Int → Bool → Option (Int × Int)
 | 0, _, _, _, _, _, _, _, _ => none
 | k + 1, x0, x1, x2, x11, x12, x13, x14, x68 => if x68 = true then (spec_FewestSorts.l1 k x0 x1 x2 x11 (wrap64 (x12 + 1))) else (spec_FewestSorts.l2 k x0 x1 x2 x11 x12 x13 x14 true 0)
def spec_FewestSorts.l2 : Nat → List (S68) → List Int → Int → Int → Int → List (S68) → Int → Bool → Int → Option (Int × Int)
 | 0, _, _, _, _, _, _, _, _, _ => none
 | k + 1, x0, x1, x2, x11, x12, x13, x14, x15, x16 => if x16 < (x1.length : Int) then (if x15 = true then (if 0 ≤ x16 then ((spec_l03Fill.f k x13 (rd x1 x16) x2).bind fun bt561 => (spec_FewestSorts.l2 k x0 x1 x2 x11 x12 x13 x14 bt561.2.2 (wrap64 (x16 + 1)))) else (none)) else (spec_FewestSorts.l1 k x0 x1 x2 x11 (wrap64 (x12 + 1)))) else (if x15 = true then (spec_FewestSorts.l1 k x0 x1 x2 x14 (wrap64 (x12 + 1))) else (spec_FewestSorts.l1 k x0 x1 x2 x11 (wrap64 (x12 + 1))))
end
def spec_FewestSorts.f (k : Nat) (l0 : List (S68)) (l1 : List Int) (a2 : Int) : Option (Int × Int) := (spec_l03Joint.f a2).bind fun t553 => (spec_FewestSorts.l0 k l0 l1 a2 t553 0)
theorem spec_FewestSorts.mono_l : ∀ k, (∀ y0 y1 y2 y3 y4, LeO (spec_FewestSorts.l0 k y0 y1 y2 y3 y4) (spec_FewestSorts.l0 (k + 1) y0 y1 y2 y3 y4)) ∧ (∀ y0 y1 y2 y3 y4, LeO (spec_FewestSorts.j1 k y0 y1 y2 y3 y4) (spec_FewestSorts.j1 (k + 1) y0 y1 y2 y3 y4)) ∧ (∀ y0 y1 y2 y3, LeO (spec_FewestSorts.j2 k y0 y1 y2 y3) (spec_FewestSorts.j2 (k + 1) y0 y1 y2 y3)) ∧ (∀ y0 y1 y2 y3 y4, LeO (spec_FewestSorts.l1 k y0 y1 y2 y3 y4) (spec_FewestSorts.l1 (k + 1) y0 y1 y2 y3 y4)) ∧ (∀ y0 y1 y2 y3 y4 y5 y6 y7, LeO (spec_FewestSorts.j4 k y0 y1 y2 y3 y4 y5 y6 y7) (spec_FewestSorts.j4 (k + 1) y0 y1 y2 y3 y4 y5 y6 y7)) ∧ (∀ y0 y1 y2 y3 y4 y5 y6 y7 y8, LeO (spec_FewestSorts.l2 k y0 y1 y2 y3 y4 y5 y6 y7 y8) (spec_FewestSorts.l2 (k + 1) y0 y1 y2 y3 y4 y5 y6 y7 y8))
 | 0 => ⟨fun _ _ _ _ _ r h => by simp [spec_FewestSorts.l0] at h, fun _ _ _ _ _ r h => by simp [spec_FewestSorts.j1] at h, fun _ _ _ _ r h => by simp [spec_FewestSorts.j2] at h, fun _ _ _ _ _ r h => by simp [spec_FewestSorts.l1] at h, fun _ _ _ _ _ _ _ _ r h => by simp [spec_FewestSorts.j4] at h, fun _ _ _ _ _ _ _ _ _ r h => by simp [spec_FewestSorts.l2] at h⟩
 | k + 1 => by
  obtain ⟨ih0, ih1, ih2, ih3, ih4, ih5⟩ := spec_FewestSorts.mono_l k; refine ⟨?_, ?_, ?_, ?_, ?_, ?_⟩
  ·
   intro y0 y1 y2 y3 y4
   unfold spec_FewestSorts.l0
   repeat' first
   | (with_reducible exact ih0 _ _ _ _ _)
   | (with_reducible exact ih1 _ _ _ _ _)
   | (with_reducible exact ih2 _ _ _ _)
   | (with_reducible exact ih3 _ _ _ _ _)
   | (with_reducible exact ih4 _ _ _ _ _ _ _ _)
   | (with_reducible exact ih5 _ _ _ _ _ _ _ _ _)
   | (with_reducible exact spec_l03Asked.mono _ _ _)
   | (with_reducible exact spec_l03Fill.mono _ _ _ _)
   | (with_reducible exact spec_l03Sorts.mono _ _ _)
   | (with_reducible exact LeO.refl _)
   | (with_reducible exact LeO.none _)
   | (with_reducible refine LeO.ite ?_ ?_)
   | (with_reducible refine LeO.bind ?_ (fun _ => ?_))
   | exact ih0 _ _ _ _ _
   | exact ih1 _ _ _ _ _
   | exact ih2 _ _ _ _
   | exact ih3 _ _ _ _ _
   | exact ih4 _ _ _ _ _ _ _ _
   | exact ih5 _ _ _ _ _ _ _ _ _
   | exact spec_l03Asked.mono _ _ _
   | exact spec_l03Fill.mono _ _ _ _
   | exact spec_l03Sorts.mono _ _ _
   | exact LeO.none _
   | refine LeO.ite ?_ ?_
   | refine LeO.bind ?_ (fun _ => ?_)
  ·
   intro y0 y1 y2 y3 y4
   unfold spec_FewestSorts.j1
   repeat' first
   | (with_reducible exact ih0 _ _ _ _ _)
   | (with_reducible exact ih1 _ _ _ _ _)
   | (with_reducible exact ih2 _ _ _ _)
   | (with_reducible exact ih3 _ _ _ _ _)
   | (with_reducible exact ih4 _ _ _ _ _ _ _ _)
   | (with_reducible exact ih5 _ _ _ _ _ _ _ _ _)
   | (with_reducible exact spec_l03Asked.mono _ _ _)
   | (with_reducible exact spec_l03Fill.mono _ _ _ _)
   | (with_reducible exact spec_l03Sorts.mono _ _ _)
   | (with_reducible exact LeO.refl _)
   | (with_reducible exact LeO.none _)
   | (with_reducible refine LeO.ite ?_ ?_)
   | (with_reducible refine LeO.bind ?_ (fun _ => ?_))
   | exact ih0 _ _ _ _ _
   | exact ih1 _ _ _ _ _
   | exact ih2 _ _ _ _
   | exact ih3 _ _ _ _ _
   | exact ih4 _ _ _ _ _ _ _ _
   | exact ih5 _ _ _ _ _ _ _ _ _
   | exact spec_l03Asked.mono _ _ _
   | exact spec_l03Fill.mono _ _ _ _
   | exact spec_l03Sorts.mono _ _ _
   | exact LeO.none _
   | refine LeO.ite ?_ ?_
   | refine LeO.bind ?_ (fun _ => ?_)
  ·
   intro y0 y1 y2 y3
   unfold spec_FewestSorts.j2
   repeat' first
   | (with_reducible exact ih0 _ _ _ _ _)
   | (with_reducible exact ih1 _ _ _ _ _)
   | (with_reducible exact ih2 _ _ _ _)
   | (with_reducible exact ih3 _ _ _ _ _)
   | (with_reducible exact ih4 _ _ _ _ _ _ _ _)
   | (with_reducible exact ih5 _ _ _ _ _ _ _ _ _)
   | (with_reducible exact spec_l03Asked.mono _ _ _)
   | (with_reducible exact spec_l03Fill.mono _ _ _ _)
   | (with_reducible exact spec_l03Sorts.mono _ _ _)
   | (with_reducible exact LeO.refl _)
   | (with_reducible exact LeO.none _)
   | (with_reducible refine LeO.ite ?_ ?_)
   | (with_reducible refine LeO.bind ?_ (fun _ => ?_))
   | exact ih0 _ _ _ _ _
   | exact ih1 _ _ _ _ _
   | exact ih2 _ _ _ _
   | exact ih3 _ _ _ _ _
   | exact ih4 _ _ _ _ _ _ _ _
   | exact ih5 _ _ _ _ _ _ _ _ _
   | exact spec_l03Asked.mono _ _ _
   | exact spec_l03Fill.mono _ _ _ _
   | exact spec_l03Sorts.mono _ _ _
   | exact LeO.none _
   | refine LeO.ite ?_ ?_
   | refine LeO.bind ?_ (fun _ => ?_)
  ·
   intro y0 y1 y2 y3 y4
   unfold spec_FewestSorts.l1
   repeat' first
   | (with_reducible exact ih0 _ _ _ _ _)
   | (with_reducible exact ih1 _ _ _ _ _)
   | (with_reducible exact ih2 _ _ _ _)
   | (with_reducible exact ih3 _ _ _ _ _)
   | (with_reducible exact ih4 _ _ _ _ _ _ _ _)
   | (with_reducible exact ih5 _ _ _ _ _ _ _ _ _)
   | (with_reducible exact spec_l03Asked.mono _ _ _)
   | (with_reducible exact spec_l03Fill.mono _ _ _ _)
   | (with_reducible exact spec_l03Sorts.mono _ _ _)
   | (with_reducible exact LeO.refl _)
   | (with_reducible exact LeO.none _)
   | (with_reducible refine LeO.ite ?_ ?_)
   | (with_reducible refine LeO.bind ?_ (fun _ => ?_))
   | exact ih0 _ _ _ _ _
   | exact ih1 _ _ _ _ _
   | exact ih2 _ _ _ _
   | exact ih3 _ _ _ _ _
   | exact ih4 _ _ _ _ _ _ _ _
   | exact ih5 _ _ _ _ _ _ _ _ _
   | exact spec_l03Asked.mono _ _ _
   | exact spec_l03Fill.mono _ _ _ _
   | exact spec_l03Sorts.mono _ _ _
   | exact LeO.none _
   | refine LeO.ite ?_ ?_
   | refine LeO.bind ?_ (fun _ => ?_)
  ·
   intro y0 y1 y2 y3 y4 y5 y6 y7
   unfold spec_FewestSorts.j4
   repeat' first
   | (with_reducible exact ih0 _ _ _ _ _)
   | (with_reducible exact ih1 _ _ _ _ _)
   | (with_reducible exact ih2 _ _ _ _)
   | (with_reducible exact ih3 _ _ _ _ _)
   | (with_reducible exact ih4 _ _ _ _ _ _ _ _)
   | (with_reducible exact ih5 _ _ _ _ _ _ _ _ _)
   | (with_reducible exact spec_l03Asked.mono _ _ _)
   | (with_reducible exact spec_l03Fill.mono _ _ _ _)
   | (with_reducible exact spec_l03Sorts.mono _ _ _)
   | (with_reducible exact LeO.refl _)
   | (with_reducible exact LeO.none _)
   | (with_reducible refine LeO.ite ?_ ?_)
   | (with_reducible refine LeO.bind ?_ (fun _ => ?_))
   | exact ih0 _ _ _ _ _
   | exact ih1 _ _ _ _ _
   | exact ih2 _ _ _ _
   | exact ih3 _ _ _ _ _
   | exact ih4 _ _ _ _ _ _ _ _
   | exact ih5 _ _ _ _ _ _ _ _ _
   | exact spec_l03Asked.mono _ _ _
   | exact spec_l03Fill.mono _ _ _ _
   | exact spec_l03Sorts.mono _ _ _
   | exact LeO.none _
   | refine LeO.ite ?_ ?_
   | refine LeO.bind ?_ (fun _ => ?_)
  ·
   intro y0 y1 y2 y3 y4 y5 y6 y7 y8
   unfold spec_FewestSorts.l2
   repeat' first
   | (with_reducible exact ih0 _ _ _ _ _)
   | (with_reducible exact ih1 _ _ _ _ _)
   | (with_reducible exact ih2 _ _ _ _)
   | (with_reducible exact ih3 _ _ _ _ _)
   | (with_reducible exact ih4 _ _ _ _ _ _ _ _)
   | (with_reducible exact ih5 _ _ _ _ _ _ _ _ _)
   | (with_reducible exact spec_l03Asked.mono _ _ _)
   | (with_reducible exact spec_l03Fill.mono _ _ _ _)
   | (with_reducible exact spec_l03Sorts.mono _ _ _)
   | (with_reducible exact LeO.refl _)
   | (with_reducible exact LeO.none _)
   | (with_reducible refine LeO.ite ?_ ?_)
   | (with_reducible refine LeO.bind ?_ (fun _ => ?_))
   | exact ih0 _ _ _ _ _
   | exact ih1 _ _ _ _ _
   | exact ih2 _ _ _ _
   | exact ih3 _ _ _ _ _
   | exact ih4 _ _ _ _ _ _ _ _
   | exact ih5 _ _ _ _ _ _ _ _ _
   | exact spec_l03Asked.mono _ _ _
   | exact spec_l03Fill.mono _ _ _ _
   | exact spec_l03Sorts.mono _ _ _
   | exact LeO.none _
   | refine LeO.ite ?_ ?_
   | refine LeO.bind ?_ (fun _ => ?_)
theorem spec_FewestSorts.mono : ∀ a0 a1 a2 k, LeO (spec_FewestSorts.f k a0 a1 a2) (spec_FewestSorts.f (k + 1) a0 a1 a2) := by
 intro a0 a1 a2 k; obtain ⟨ih0, ih1, ih2, ih3, ih4, ih5⟩ := spec_FewestSorts.mono_l k
 unfold spec_FewestSorts.f
 repeat' first
   | (with_reducible exact ih0 _ _ _ _ _)
   | (with_reducible exact ih1 _ _ _ _ _)
   | (with_reducible exact ih2 _ _ _ _)
   | (with_reducible exact ih3 _ _ _ _ _)
   | (with_reducible exact ih4 _ _ _ _ _ _ _ _)
   | (with_reducible exact ih5 _ _ _ _ _ _ _ _ _)
   | (with_reducible exact spec_l03Asked.mono _ _ _)
   | (with_reducible exact spec_l03Fill.mono _ _ _ _)
   | (with_reducible exact spec_l03Sorts.mono _ _ _)
   | (with_reducible exact LeO.refl _)
   | (with_reducible exact LeO.none _)
   | (with_reducible refine LeO.ite ?_ ?_)
   | (with_reducible refine LeO.bind ?_ (fun _ => ?_))
   | exact ih0 _ _ _ _ _
   | exact ih1 _ _ _ _ _
   | exact ih2 _ _ _ _
   | exact ih3 _ _ _ _ _
   | exact ih4 _ _ _ _ _ _ _ _
   | exact ih5 _ _ _ _ _ _ _ _ _
   | exact spec_l03Asked.mono _ _ _
   | exact spec_l03Fill.mono _ _ _ _
   | exact spec_l03Sorts.mono _ _ _
   | exact LeO.none _
   | refine LeO.ite ?_ ?_
   | refine LeO.bind ?_ (fun _ => ?_)
set_option maxHeartbeats 8000000 in
set_option maxRecDepth 100000 in
theorem spec_FewestSorts.calls (k : Nat) (A0 : Option Addr) (c0 : Nat) (l0 : List (S68)) (A1 : Option Addr) (c1 : Nat) (l1 : List Int) (a2 : Int) (r1 : Int) (r2 : Int) (w : World) (hr0 : Kd.C k68 w A0 l0.length l0) (hc0 : l0.length ≤ c0) (hr1 : Kd.C (Kd.int .i64) w A1 l1.length l1) (hc1 : l1.length ≤ c1) (h : spec_FewestSorts.f k l0 l1 a2 = some (r1, r2)) :
  Calls Try.prog 38 #[.slice A0 l0.length c0, .slice A1 l1.length c1, .int .i64 a2] w fun e w' => e = .returned (.tuple #[.int .i64 r1, .int .i64 r2]) ∧ Below w.heap.size w w' := by
 have HR0 := am_ hr0; have HC0 := am_ hc0; clear hr0 hc0; have HR1 := am_ hr1; have HC1 := am_ hc1; clear hr1 hc1; have HB := am_ (Below.refl w.heap.size w); have H : ((spec_l03Joint.f a2).bind fun t553 => (spec_FewestSorts.l0 k l0 l1 a2 t553 0)) = some (r1, r2) := h; clear h; replace H := Option.bind_eq_some_iff.mp H; obtain ⟨t553, A40, H⟩ := H; replace H : (spec_FewestSorts.l0 k l0 l1 a2 t553 0) = some (r1, r2) := H; have A4 := am_ A40; clear A40; have H' := am_ H; clear H
 go_enter Try.func38, Try.ntmps38
 go_wp2_with (first | ((with_reducible refine gate_callee (f := 41) rfl ?_); refine goesL_ (some 21) rfl rfl Try.func41 (by kernel_rfl) rfl #[.int .i64 a2] rfl (by (try simp only [List.map_toArray, List.map_cons, List.map_nil]); first | done | rfl | (simp only [List.length_drop, List.length_take]; rfl)) ?_; (with_reducible refine (spec_l03Joint.calls a2 t553 _ A4.out).mono ?_); rintro e w' ⟨rfl, ⟨nd, rfl⟩⟩; refine ⟨_, rfl, ?_⟩))
 go_loopg [8, 9] k (fun kq v8 v9 w' => ∃ (x8_1 : Bool) (x9_1 : Int), v8 = .bool x8_1 ∧ v9 = .int .i64 x9_1 ∧ Aside0 (spec_FewestSorts.l0 kq l0 l1 a2 x8_1 x9_1 = some (r1, r2)) ∧ Aside0 (kq ≤ k) ∧ Aside0 (Below w.heap.size w w'))
 case atStart => exact ⟨(t553), (0), (by first | rfl | (simp; done) | (simp [*]; done)), (by first | rfl | (simp; done) | (simp [*]; done)), H', ⟨Nat.le_refl _⟩, ⟨by repeat (first | (with_reducible first | exact HB.out | apply bA_ | apply bN_ | apply bD_) | exact HB.out)⟩⟩
 case round =>
  clear H'; (try clear c1); (try clear p2); (try clear c3); (try clear c4); obtain ⟨x8_1, x9_1, rfl, rfl, HA, HK1, HB⟩ := hrel
  cases gk with
  | zero => exact absurd HA.out (by simp [spec_FewestSorts.l0])
  | succ k1 =>
   have H := HA.out; clear HA; simp only [spec_FewestSorts.l0] at H
   by_cases c5 : x9_1 < (l1.length : Int)
   ·
    rw [if_pos c5] at H; have c5b0 : decide (x9_1 < (l1.length : Int)) = true := decide_eq_true c5; clear c5
    by_cases c6 : x8_1 = true
    ·
     subst c6; have H1 : (if 0 ≤ x9_1 then ((spec_l03Long.f (rd l1 x9_1)).bind fun t555 => (spec_FewestSorts.l0 k1 l0 l1 a2 t555 (wrap64 (x9_1 + 1)))) else (none)) = some (r1, r2) := by rw [if_pos rfl] at H; exact H
     clear H; have H := H1; clear H1
     by_cases c7 : 0 ≤ x9_1
     ·
      rw [if_pos c7] at H; have c7b0 : decide (0 ≤ x9_1) = true := decide_eq_true c7; clear c7; replace H := Option.bind_eq_some_iff.mp H; obtain ⟨t555, A80, H⟩ := H; replace H : (spec_FewestSorts.l0 k1 l0 l1 a2 t555 (wrap64 (x9_1 + 1))) = some (r1, r2) := H; have A8 := am_ A80; clear A80; have H' := am_ H; clear H; have p554 : 0 ≤ (x9_1 : Int) := od_ (by first | (with_reducible assumption) | assumption); have q554 : x9_1 < (l1.length : Int) := od_ (by first | (with_reducible assumption) | assumption); obtain ⟨ad554, e554, hx554_0⟩ := Kd.at_int HR1.out x9_1 p554 q554
      cases e554
      replace hx554_0 := (HB.out.cell (bl_ w _ hx554_0)).trans hx554_0; replace p554 := eq_true p554; replace q554 := eq_true q554
      go_wp2_with (first | (go_at_call 51; (with_reducible refine (spec_l03Long.calls (rd l1 x9_1) t555 _ A8.out).mono ?_); rintro e w' ⟨rfl, ⟨nd, rfl⟩⟩))
      go_roundg k1
      case measure => have := HK1.out; omega
      case rel => exact ⟨(t555), (wrap64 (x9_1 + 1)), (by first | rfl | (simp; done) | (simp [*]; done)), (by first | rfl | (simp; done) | (simp [*]; done)), H', ⟨by have := HK1.out; omega⟩, ⟨by repeat (first | (with_reducible first | exact HB.out | apply bA_ | apply bN_ | apply bD_) | exact HB.out)⟩⟩
     ·
      rw [if_neg c7] at H; exact absurd H (by simp)
    ·
     replace c6 := Bool.eq_false_iff.mpr c6; subst c6; have H1 : (spec_FewestSorts.l0 k1 l0 l1 a2 false (wrap64 (x9_1 + 1))) = some (r1, r2) := by rw [if_neg (show ¬ (false = true) by decide)] at H; exact H
     clear H; have H := H1; clear H1; have H' := am_ H; clear H
     go_wp2
     go_roundg k1
     case measure => have := HK1.out; omega
     case rel => exact ⟨(false), (wrap64 (x9_1 + 1)), (by first | rfl | (simp; done) | (simp [*]; done)), (by first | rfl | (simp; done) | (simp [*]; done)), H', ⟨by have := HK1.out; omega⟩, ⟨by repeat (first | (with_reducible first | exact HB.out | apply bA_ | apply bN_ | apply bD_) | exact HB.out)⟩⟩
   ·
    rw [if_neg c5] at H; have c5b0 : decide (x9_1 < (l1.length : Int)) = false := decide_eq_false c5; clear c5; replace H := Option.bind_eq_some_iff.mp H; obtain ⟨t556, A90, H⟩ := H; replace H : (if t556 = 0 then (spec_FewestSorts.j1 k1 l0 l1 a2 t556 (decide ((l1.length : Int) > 8))) else (spec_FewestSorts.j1 k1 l0 l1 a2 t556 false)) = some (r1, r2) := H; have A9 := am_ A90; clear A90; have HC10 := am_ H; clear H
    go_upto_region 7 with (first | ((with_reducible refine gate_callee (f := 50) rfl ?_); refine goesL_ (some 38) rfl rfl Try.func50 (by kernel_rfl) rfl #[.slice A0 l0.length c0, .bool x8_1] rfl (by (try simp only [List.map_toArray, List.map_cons, List.map_nil]); first | done | rfl | (simp only [List.length_drop, List.length_take]; rfl)) ?_; (with_reducible refine (spec_l03Asked.calls k1 _ _ l0 x8_1 t556 _ ?side1 ?side2 A9.out).mono ?_); (case side1 => repeat (first | exact (Kd.C_below HR0.out HB.out) | (with_reducible refine Kd.C_alloc ?_ _) | (with_reducible refine Kd.C_drewN ?_ _) | (with_reducible refine Kd.C_drew ?_))); (case side2 => exact HC0.out); rintro e w11 ⟨rfl, hb⟩; refine ⟨_, rfl, ?_⟩; have n0_ := am_ (bT_ (by repeat (first | (with_reducible first | exact HB.out | apply bA_ | apply bN_ | apply bD_) | exact HB.out)) hb); clear HB; have HB := n0_; clear n0_; (try clear hb); (try clear hb2); (try clear hk); (try clear hi)))
    (try simp only [Act.put, z1_, z2_, z3_])
    go_cut [45] (fun v45 wc => ∃ (kq : Nat) (x45_9 : Bool), v45 = .bool x45_9 ∧ Aside0 (spec_FewestSorts.j1 kq l0 l1 a2 t556 x45_9 = some (r1, r2)) ∧ Aside0 (kq ≤ k1) ∧ Aside0 (Below w.heap.size w wc))
    case first =>
     have H := HC10.out; clear HC10
     by_cases c12 : t556 = 0
     ·
      rw [if_pos c12] at H; have c12b0 : (t556 == 0) = true := beq_iff_eq.mpr c12; have c12b1 : (t556 != 0) = false := bne_eq_false_iff_eq.mpr c12; clear c12
      (first | rw [c12b0] | (simp only [i64_w, i32_w]; rw [c12b0]) | skip)
      have H' := am_ H; clear H
      go_wp2
      go_meet
      case rel => exact ⟨_, (decide ((l1.length : Int) > 8)), (by first | rfl | (simp; done) | (simp [*]; done)), H', ⟨by have := HK1.out; first | omega | exact Nat.le_refl _⟩, ⟨by repeat (first | (with_reducible first | exact HB.out | apply bA_ | apply bN_ | apply bD_) | exact HB.out)⟩⟩
     ·
      rw [if_neg c12] at H; have c12b0 : (t556 == 0) = false := beq_eq_false_iff_ne.mpr c12; have c12b1 : (t556 != 0) = true := bne_iff_ne.mpr c12
      (first | rw [c12b0] | (simp only [i64_w, i32_w]; rw [c12b0]) | skip)
      have H' := am_ H; clear H
      go_wp2
      go_meet
      case rel => exact ⟨_, (false), (by first | rfl | (simp; done) | (simp [*]; done)), H', ⟨by have := HK1.out; first | omega | exact Nat.le_refl _⟩, ⟨by repeat (first | (with_reducible first | exact HB.out | apply bA_ | apply bN_ | apply bD_) | exact HB.out)⟩⟩
    case rest =>
     clear HC10; (try clear c1); (try clear p2); (try clear c3); (try clear c4); (try clear c5); (try clear c5b0); (try clear p5); (try clear q5); (try clear hx5); (try clear c6); (try clear p6); (try clear c7); (try clear c7b0); (try clear c12); (try clear c12b0); (try clear c12b1); (try clear hx554_0); (try clear p2); (try clear p554); (try clear q554); obtain ⟨kq, x45_9, rfl, HA, HJ9, HB⟩ := hcut
     cases kq with
     | zero => exact absurd HA.out (by simp [spec_FewestSorts.j1])
     | succ kj9 =>
      have H := HA.out; clear HA; simp only [spec_FewestSorts.j1] at H; have HC13 := am_ H; clear H
      go_upto_if 45 with (fail)
      go_cut [10] (fun v10 wc => ∃ (kq : Nat) (x10_12 : Int), v10 = .int .i64 x10_12 ∧ Aside0 (spec_FewestSorts.j2 kq l0 l1 a2 x10_12 = some (r1, r2)) ∧ Aside0 (kq ≤ kj9) ∧ Aside0 (Below w.heap.size w wc))
      case first =>
       have H := HC13.out; clear HC13
       by_cases c14 : x45_9 = true
       ·
        subst c14; have H1 : (spec_FewestSorts.j2 kj9 l0 l1 a2 3) = some (r1, r2) := by rw [if_pos rfl] at H; exact H
        clear H; have H := H1; clear H1; have H' := am_ H; clear H
        go_wp2
        go_meet
        case rel => exact ⟨_, (3), (by first | rfl | (simp; done) | (simp [*]; done)), H', ⟨by have := HK1.out; have := HJ9.out; first | omega | exact Nat.le_refl _⟩, ⟨by repeat (first | (with_reducible first | exact HB.out | apply bA_ | apply bN_ | apply bD_) | exact HB.out)⟩⟩
       ·
        replace c14 := Bool.eq_false_iff.mpr c14; subst c14; have H1 : (spec_FewestSorts.j2 kj9 l0 l1 a2 t556) = some (r1, r2) := by rw [if_neg (show ¬ (false = true) by decide)] at H; exact H
        clear H; have H := H1; clear H1; have H' := am_ H; clear H
        go_wp2
        go_meet
        case rel => exact ⟨_, (t556), (by first | rfl | (simp; done) | (simp [*]; done)), H', ⟨by have := HK1.out; have := HJ9.out; first | omega | exact Nat.le_refl _⟩, ⟨by repeat (first | (with_reducible first | exact HB.out | apply bA_ | apply bN_ | apply bD_) | exact HB.out)⟩⟩
      case rest =>
       clear HC13; (try clear c1); (try clear p2); (try clear c3); (try clear c4); (try clear c5); (try clear c5b0); (try clear p5); (try clear q5); (try clear hx5); (try clear c6); (try clear p6); (try clear c7); (try clear c7b0); (try clear c12); (try clear c12b0); (try clear c12b1); (try clear c14); (try clear hx554_0); (try clear p2); (try clear p5); (try clear p554); (try clear p6); (try clear q5); (try clear q554); obtain ⟨kq, x10_12, rfl, HA, HJ12, HB⟩ := hcut
       cases kq with
       | zero => exact absurd HA.out (by simp [spec_FewestSorts.j2])
       | succ kj12 =>
        have H := HA.out; clear HA; simp only [spec_FewestSorts.j2] at H
        by_cases c15 : x10_12 = 0
        ·
         rw [if_pos c15] at H; have c15b0 : (x10_12 == 0) = true := beq_iff_eq.mpr c15; have c15b1 : (x10_12 != 0) = false := bne_eq_false_iff_eq.mpr c15; clear c15; have H' := am_ H; clear H
         go_wp2
         go_loopg [11, 12] kj12 (fun kq v11 v12 w' => ∃ (x11_4 : Int) (x12_4 : Int), v11 = .int .i64 x11_4 ∧ v12 = .int .i64 x12_4 ∧ Aside0 (spec_FewestSorts.l1 kq l0 l1 a2 x11_4 x12_4 = some (r1, r2)) ∧ Aside0 (kq ≤ kj12) ∧ Aside0 (Below w.heap.size w w'))
         case atStart => exact ⟨((-1)), (0), (by first | rfl | (simp; done) | (simp [*]; done)), (by first | rfl | (simp; done) | (simp [*]; done)), H', ⟨Nat.le_refl _⟩, ⟨by repeat (first | (with_reducible first | exact HB.out | apply bA_ | apply bN_ | apply bD_) | exact HB.out)⟩⟩
         case round =>
          clear H'; (try clear c1); (try clear p2); (try clear c3); (try clear c4); (try clear c5); (try clear c5b0); (try clear p5); (try clear q5); (try clear hx5); (try clear c6); (try clear p6); (try clear c7); (try clear c7b0); (try clear c12); (try clear c12b0); (try clear c12b1); (try clear c14); (try clear c15); (try clear c15b0); (try clear c15b1); (try clear hx554_0); (try clear p2); (try clear p5); (try clear p554); (try clear p6); (try clear q5); (try clear q554); obtain ⟨x11_4, x12_4, rfl, rfl, HA, HK4, HB⟩ := hrel
          cases gk with
          | zero => exact absurd HA.out (by simp [spec_FewestSorts.l1])
          | succ k4 =>
           have H := HA.out; clear HA; simp only [spec_FewestSorts.l1] at H; obtain ⟨ji16, hji16⟩ : ∃ j_ : Int, (IntKind.u64.wrap ((l0.length : Int))) = j_ := ⟨_, rfl⟩
           replace H : (if 0 ≤ (ji16) then (if x12_4 < (shl .i64 1 (ji16)) then ((spec_l03Sorts.f k4 l0 x12_4).bind fun t557 => (if x11_4 ≥ 0 then (spec_FewestSorts.j4 k4 l0 l1 a2 x11_4 x12_4 t557 (t557.length : Int) (decide ((t557.length : Int) ≥ x11_4))) else (spec_FewestSorts.j4 k4 l0 l1 a2 x11_4 x12_4 t557 (t557.length : Int) false))) else (if x11_4 < 0 then (some (0, 6)) else (some (x11_4, 0)))) else (none)) = some (r1, r2) := by first | (rw [hji16] at H; exact H) | (simp only [hji16] at H ⊢; exact H)
           by_cases c17 : 0 ≤ (ji16)
           ·
            rw [if_pos c17] at H; have c17b0 := eq_true c17; have c17b1 : decide (0 ≤ (ji16)) = true := decide_eq_true c17; clear c17; obtain ⟨ji18, hji18⟩ : ∃ j_ : Int, (shl .i64 1 (ji16)) = j_ := ⟨_, rfl⟩
            replace H : (if x12_4 < (ji18) then ((spec_l03Sorts.f k4 l0 x12_4).bind fun t557 => (if x11_4 ≥ 0 then (spec_FewestSorts.j4 k4 l0 l1 a2 x11_4 x12_4 t557 (t557.length : Int) (decide ((t557.length : Int) ≥ x11_4))) else (spec_FewestSorts.j4 k4 l0 l1 a2 x11_4 x12_4 t557 (t557.length : Int) false))) else (if x11_4 < 0 then (some (0, 6)) else (some (x11_4, 0)))) = some (r1, r2) := by first | (rw [hji18] at H; exact H) | (simp only [hji18] at H ⊢; exact H)
            have hji18_ : (IntKind.i64.wrap (1 * 2 ^ min (ji16).toNat 64)) = ji18 := hji18; have hji18z : (ji16) ≤ 64 → (IntKind.i64.wrap (1 * 2 ^ (ji16).toNat)) = ji18 := shl_small hji18; have hji18u : (IntKind.i64.wrap (2 ^ min (ji16).toNat 64)) = ji18 := by have h_ := hji18_; rw [Int.one_mul] at h_; exact h_
            have hji18v : (ji16) ≤ 64 → (IntKind.i64.wrap (2 ^ (ji16).toNat)) = ji18 := fun hle_ => by have h_ := hji18z hle_; rw [Int.one_mul] at h_; exact h_
            have hji18y : (wrap64 (1 * 2 ^ min (ji16).toNat 64)) = ji18 := (i64_w _).symm.trans hji18_; have hji18x : (ji16) ≤ 64 → (wrap64 (1 * 2 ^ (ji16).toNat)) = ji18 := fun h_ => (i64_w _).symm.trans (hji18z h_)
            by_cases c19 : x12_4 < (ji18)
            ·
             rw [if_pos c19] at H; have c19b0 : decide (x12_4 < (ji18)) = true := decide_eq_true c19; clear c19; replace H := Option.bind_eq_some_iff.mp H; obtain ⟨t557, A200, H⟩ := H; replace H : (if x11_4 ≥ 0 then (spec_FewestSorts.j4 k4 l0 l1 a2 x11_4 x12_4 t557 (t557.length : Int) (decide ((t557.length : Int) ≥ x11_4))) else (spec_FewestSorts.j4 k4 l0 l1 a2 x11_4 x12_4 t557 (t557.length : Int) false)) = some (r1, r2) := H; have A20 := am_ A200; clear A200; have HC21 := am_ H; clear H
             go_upto_region 17 with (first | ((with_reducible refine gate_callee (f := 71) rfl ?_); refine goesL_ (some 59) rfl rfl Try.func71 (by kernel_rfl) rfl #[.slice A0 l0.length c0, .int .i64 x12_4] rfl (by (try simp only [List.map_toArray, List.map_cons, List.map_nil]); first | done | rfl | (simp only [List.length_drop, List.length_take]; rfl)) ?_; (with_reducible refine (spec_l03Sorts.calls k4 _ _ l0 x12_4 t557 _ ?side1 ?side2 A20.out).mono ?_); (case side1 => repeat (first | exact (Kd.C_below HR0.out HB.out) | (with_reducible refine Kd.C_alloc ?_ _) | (with_reducible refine Kd.C_drewN ?_ _) | (with_reducible refine Kd.C_drew ?_))); (case side2 => exact HC0.out); rintro e w22 ⟨v558, rfl, ho0, hb⟩; refine ⟨_, rfl, ?_⟩; have n0_ := am_ (Kd.R_lower ho0 (below_size (by repeat (first | (with_reducible first | exact HB.out | apply bA_ | apply bN_ | apply bD_) | exact HB.out)))); have n1_ := am_ (bT_ (by repeat (first | (with_reducible first | exact HB.out | apply bA_ | apply bN_ | apply bD_) | exact HB.out)) hb); clear HB; have HO559 := n0_; have HB := n1_; clear n0_ n1_; (try clear hb); (try clear hb2); (try clear hk); (try clear hi); (try clear ho0); obtain ⟨Ao23, co23, eo23⟩ := Kd.R_slice HO559.out; subst eo23))
             (try simp only [Act.put, z1_, z2_, z3_])
             go_cut [68] (fun v68 wc => ∃ (kq : Nat) (x68_20 : Bool), v68 = .bool x68_20 ∧ Aside0 (spec_FewestSorts.j4 kq l0 l1 a2 x11_4 x12_4 t557 (t557.length : Int) x68_20 = some (r1, r2)) ∧ Aside0 (kq ≤ k4) ∧ Aside0 (Kd.R k68 68 wc w.heap.size (fun _ => True) (.slice Ao23 t557.length co23) t557) ∧ Aside0 (Below w.heap.size w wc))
             case first =>
              have H := HC21.out; clear HC21
              by_cases c24 : x11_4 ≥ 0
              ·
               rw [if_pos c24] at H; have c24b0 : decide (0 ≤ x11_4) = true := decide_eq_true c24; clear c24
               (first | rw [c24b0] | (simp only [i64_w, i32_w]; rw [c24b0]) | skip)
               have H' := am_ H; clear H
               go_wp2
               go_meet
               case rel => exact ⟨_, (decide ((t557.length : Int) ≥ x11_4)), (by first | rfl | (simp; done) | (simp [*]; done)), H', ⟨by have := HK1.out; have := HJ9.out; have := HJ12.out; have := HK4.out; first | omega | exact Nat.le_refl _⟩, ⟨by (with_reducible repeat (first | apply Kd.R_alloc | apply Kd.R_drewN | apply Kd.R_drew)); exact HO559.out⟩, ⟨by repeat (first | (with_reducible first | exact HB.out | apply bA_ | apply bN_ | apply bD_) | exact HB.out)⟩⟩
              ·
               rw [if_neg c24] at H; have c24b0 : decide (0 ≤ x11_4) = false := decide_eq_false c24; clear c24
               (first | rw [c24b0] | (simp only [i64_w, i32_w]; rw [c24b0]) | skip)
               have H' := am_ H; clear H
               go_wp2
               go_meet
               case rel => exact ⟨_, (false), (by first | rfl | (simp; done) | (simp [*]; done)), H', ⟨by have := HK1.out; have := HJ9.out; have := HJ12.out; have := HK4.out; first | omega | exact Nat.le_refl _⟩, ⟨by (with_reducible repeat (first | apply Kd.R_alloc | apply Kd.R_drewN | apply Kd.R_drew)); exact HO559.out⟩, ⟨by repeat (first | (with_reducible first | exact HB.out | apply bA_ | apply bN_ | apply bD_) | exact HB.out)⟩⟩
             case rest =>
              clear HC21; (try clear c1); (try clear c2); (try clear p2); (try clear c3); (try clear c4); (try clear c5); (try clear c5b0); (try clear p5); (try clear q5); (try clear hx5); (try clear c6); (try clear p6); (try clear c7); (try clear c7b0); (try clear c12); (try clear c12b0); (try clear c12b1); (try clear c14); (try clear c15); (try clear c15b0); (try clear c15b1); (try clear c17); (try clear c17b0); (try clear c17b1); (try clear c19); (try clear c19b0); (try clear c24); (try clear c24b0); (try clear hx554_0); (try clear p2); (try clear p5); (try clear p554); (try clear p6); (try clear q5); (try clear q554); obtain ⟨kq, x68_20, rfl, HA, HJ20, HO_13, HB⟩ := hcut
              cases kq with
              | zero => exact absurd HA.out (by simp [spec_FewestSorts.j4])
              | succ kj20 =>
               have H := HA.out; clear HA; simp only [spec_FewestSorts.j4] at H
               by_cases c25 : x68_20 = true
               ·
                subst c25; have H1 : (spec_FewestSorts.l1 kj20 l0 l1 a2 x11_4 (wrap64 (x12_4 + 1))) = some (r1, r2) := by rw [if_pos rfl] at H; exact H
                clear H; have H := H1; clear H1; have H' := am_ H; clear H
                go_wp2
                go_roundg kj20
                case measure => have := HK1.out; have := HJ9.out; have := HJ12.out; have := HK4.out; have := HJ20.out; omega
                case rel => exact ⟨(x11_4), (wrap64 (x12_4 + 1)), (by first | rfl | (simp; done) | (simp [*]; done)), (by first | rfl | (simp; done) | (simp [*]; done)), H', ⟨by have := HK1.out; have := HJ9.out; have := HJ12.out; have := HK4.out; have := HJ20.out; omega⟩, ⟨by repeat (first | (with_reducible first | exact HB.out | apply bA_ | apply bN_ | apply bD_) | exact HB.out)⟩⟩
               ·
                replace c25 := Bool.eq_false_iff.mpr c25; subst c25; have H1 : (spec_FewestSorts.l2 kj20 l0 l1 a2 x11_4 x12_4 t557 (t557.length : Int) true 0) = some (r1, r2) := by rw [if_neg (show ¬ (false = true) by decide)] at H; exact H
                clear H; have H := H1; clear H1; have H' := am_ H; clear H
                go_wp2
                go_loopg [15, 16] kj20 (fun kq v15 v16 w' => ∃ (x15_6 : Bool) (x16_6 : Int), v15 = .bool x15_6 ∧ v16 = .int .i64 x16_6 ∧ Aside0 (spec_FewestSorts.l2 kq l0 l1 a2 x11_4 x12_4 t557 (t557.length : Int) x15_6 x16_6 = some (r1, r2)) ∧ Aside0 (kq ≤ kj20) ∧ Aside0 (Kd.R k68 68 w' w.heap.size (fun _ => True) (.slice Ao23 t557.length co23) t557) ∧ Aside0 (Below w.heap.size w w'))
                case atStart => exact ⟨(true), (0), (by first | rfl | (simp; done) | (simp [*]; done)), (by first | rfl | (simp; done) | (simp [*]; done)), H', ⟨Nat.le_refl _⟩, ⟨by (with_reducible repeat (first | apply Kd.R_alloc | apply Kd.R_drewN | apply Kd.R_drew)); exact HO_13.out⟩, ⟨by repeat (first | (with_reducible first | exact HB.out | apply bA_ | apply bN_ | apply bD_) | exact HB.out)⟩⟩
                case round =>
                 clear H'; (try clear c1); (try clear c2); (try clear p2); (try clear c3); (try clear c4); (try clear c5); (try clear c5b0); (try clear p5); (try clear q5); (try clear hx5); (try clear c6); (try clear p6); (try clear c7); (try clear c7b0); (try clear c12); (try clear c12b0); (try clear c12b1); (try clear c14); (try clear c15); (try clear c15b0); (try clear c15b1); (try clear c17); (try clear c17b0); (try clear c17b1); (try clear c19); (try clear c19b0); (try clear c24); (try clear c24b0); (try clear c25); (try clear hx554_0); (try clear p2); (try clear p5); (try clear p554); (try clear p6); (try clear q5); (try clear q554); obtain ⟨x15_6, x16_6, rfl, rfl, HA, HK6, HO_13, HB⟩ := hrel
                 cases gk with
                 | zero => exact absurd HA.out (by simp [spec_FewestSorts.l2])
                 | succ k6 =>
                  have H := HA.out; clear HA; simp only [spec_FewestSorts.l2] at H
                  by_cases c26 : x16_6 < (l1.length : Int)
                  ·
                   rw [if_pos c26] at H; have c26b0 : decide (x16_6 < (l1.length : Int)) = true := decide_eq_true c26; clear c26
                   by_cases c27 : x15_6 = true
                   ·
                    subst c27; have H1 : (if 0 ≤ x16_6 then ((spec_l03Fill.f k6 t557 (rd l1 x16_6) a2).bind fun bt561 => (spec_FewestSorts.l2 k6 l0 l1 a2 x11_4 x12_4 t557 (t557.length : Int) bt561.2.2 (wrap64 (x16_6 + 1)))) else (none)) = some (r1, r2) := by rw [if_pos rfl] at H; exact H
                    clear H; have H := H1; clear H1
                    by_cases c28 : 0 ≤ x16_6
                    ·
                     rw [if_pos c28] at H; have c28b0 : decide (0 ≤ x16_6) = true := decide_eq_true c28; clear c28; replace H := Option.bind_eq_some_iff.mp H; obtain ⟨⟨t561, t562, t563⟩, A290, H⟩ := H; replace H : (spec_FewestSorts.l2 k6 l0 l1 a2 x11_4 x12_4 t557 (t557.length : Int) t563 (wrap64 (x16_6 + 1))) = some (r1, r2) := H; have A29 := am_ A290; clear A290; have H' := am_ H; clear H; have p560 : 0 ≤ (x16_6 : Int) := od_ (by first | (with_reducible assumption) | assumption); have q560 : x16_6 < (l1.length : Int) := od_ (by first | (with_reducible assumption) | assumption); obtain ⟨ad560, e560, hx560_0⟩ := Kd.at_int HR1.out x16_6 p560 q560
                     cases e560
                     replace hx560_0 := (HB.out.cell (bl_ w _ hx560_0)).trans hx560_0; replace p560 := eq_true p560; replace q560 := eq_true q560
                     go_wp2_with (first | ((with_reducible refine gate_callee (f := 72) rfl ?_); refine goesL_ (some 85) rfl rfl Try.func72 (by kernel_rfl) rfl #[.slice Ao23 t557.length co23, .int .i64 (rd l1 x16_6), .int .i64 a2] rfl (by (try simp only [List.map_toArray, List.map_cons, List.map_nil]); first | done | rfl | (simp only [List.length_drop, List.length_take]; rfl)) ?_; (with_reducible refine (spec_l03Fill.calls k6 _ _ t557 (rd l1 x16_6) a2 t561 t562 t563 _ ?side1 ?side2 A29.out).mono ?_); (case side1 => repeat (first | exact (Kd.R_reads' HO_13.out).2.2 | (with_reducible refine Kd.C_alloc ?_ _) | (with_reducible refine Kd.C_drewN ?_ _) | (with_reducible refine Kd.C_drew ?_))); (case side2 => exact (Kd.R_reads' HO_13.out).2.1); rintro e w30 ⟨v564, rfl, ho0, hb⟩; refine ⟨_, rfl, ?_⟩; have n0_ := am_ (Kd.R_below (by (with_reducible repeat (first | apply Kd.R_alloc | apply Kd.R_drewN | apply Kd.R_drew)); exact HO_13.out) hb); have n1_ := am_ (Kd.R_lower ho0 (below_size (by repeat (first | (with_reducible first | exact HB.out | apply bA_ | apply bN_ | apply bD_) | exact HB.out)))); have n2_ := am_ (bT_ (by repeat (first | (with_reducible first | exact HB.out | apply bA_ | apply bN_ | apply bD_) | exact HB.out)) hb); clear HO_13; clear HB; have HO_13 := n0_; have HO565 := n1_; have HB := n2_; clear n0_ n1_ n2_; (try clear hb); (try clear hb2); (try clear hk); (try clear hi); (try clear ho0)))
                     go_roundg k6
                     case measure => have := HK1.out; have := HJ9.out; have := HJ12.out; have := HK4.out; have := HJ20.out; have := HK6.out; omega
                     case rel => exact ⟨(t563), (wrap64 (x16_6 + 1)), (by first | rfl | (simp; done) | (simp [*]; done)), (by first | rfl | (simp; done) | (simp [*]; done)), H', ⟨by have := HK1.out; have := HJ9.out; have := HJ12.out; have := HK4.out; have := HJ20.out; have := HK6.out; omega⟩, ⟨by (with_reducible repeat (first | apply Kd.R_alloc | apply Kd.R_drewN | apply Kd.R_drew)); exact HO_13.out⟩, ⟨by repeat (first | (with_reducible first | exact HB.out | apply bA_ | apply bN_ | apply bD_) | exact HB.out)⟩⟩
                    ·
                     rw [if_neg c28] at H; exact absurd H (by simp)
                   ·
                    replace c27 := Bool.eq_false_iff.mpr c27; subst c27; have H1 : (spec_FewestSorts.l1 k6 l0 l1 a2 x11_4 (wrap64 (x12_4 + 1))) = some (r1, r2) := by rw [if_neg (show ¬ (false = true) by decide)] at H; exact H
                    clear H; have H := H1; clear H1; have H' := am_ H; clear H
                    go_wp2
                    go_roundg k6
                    case measure => have := HK1.out; have := HJ9.out; have := HJ12.out; have := HK4.out; have := HJ20.out; have := HK6.out; omega
                    case rel => exact ⟨(x11_4), (wrap64 (x12_4 + 1)), (by first | rfl | (simp; done) | (simp [*]; done)), (by first | rfl | (simp; done) | (simp [*]; done)), H', ⟨by have := HK1.out; have := HJ9.out; have := HJ12.out; have := HK4.out; have := HJ20.out; have := HK6.out; omega⟩, ⟨by repeat (first | (with_reducible first | exact HB.out | apply bA_ | apply bN_ | apply bD_) | exact HB.out)⟩⟩
                  ·
                   rw [if_neg c26] at H; have c26b0 : decide (x16_6 < (l1.length : Int)) = false := decide_eq_false c26; clear c26
                   by_cases c31 : x15_6 = true
                   ·
                    subst c31; have H1 : (spec_FewestSorts.l1 k6 l0 l1 a2 (t557.length : Int) (wrap64 (x12_4 + 1))) = some (r1, r2) := by rw [if_pos rfl] at H; exact H
                    clear H; have H := H1; clear H1; have H' := am_ H; clear H
                    go_wp2
                    go_roundg k6
                    case measure => have := HK1.out; have := HJ9.out; have := HJ12.out; have := HK4.out; have := HJ20.out; have := HK6.out; omega
                    case rel => exact ⟨((t557.length : Int)), (wrap64 (x12_4 + 1)), (by first | rfl | (simp; done) | (simp [*]; done)), (by first | rfl | (simp; done) | (simp [*]; done)), H', ⟨by have := HK1.out; have := HJ9.out; have := HJ12.out; have := HK4.out; have := HJ20.out; have := HK6.out; omega⟩, ⟨by repeat (first | (with_reducible first | exact HB.out | apply bA_ | apply bN_ | apply bD_) | exact HB.out)⟩⟩
                   ·
                    replace c31 := Bool.eq_false_iff.mpr c31; subst c31; have H1 : (spec_FewestSorts.l1 k6 l0 l1 a2 x11_4 (wrap64 (x12_4 + 1))) = some (r1, r2) := by rw [if_neg (show ¬ (false = true) by decide)] at H; exact H
                    clear H; have H := H1; clear H1; have H' := am_ H; clear H
                    go_wp2
                    go_roundg k6
                    case measure => have := HK1.out; have := HJ9.out; have := HJ12.out; have := HK4.out; have := HJ20.out; have := HK6.out; omega
                    case rel => exact ⟨(x11_4), (wrap64 (x12_4 + 1)), (by first | rfl | (simp; done) | (simp [*]; done)), (by first | rfl | (simp; done) | (simp [*]; done)), H', ⟨by have := HK1.out; have := HJ9.out; have := HJ12.out; have := HK4.out; have := HJ20.out; have := HK6.out; omega⟩, ⟨by repeat (first | (with_reducible first | exact HB.out | apply bA_ | apply bN_ | apply bD_) | exact HB.out)⟩⟩
            ·
             rw [if_neg c19] at H; have c19b0 : decide (x12_4 < (ji18)) = false := decide_eq_false c19; clear c19
             by_cases c32 : x11_4 < 0
             ·
              rw [if_pos c32] at H; have c32b0 : decide (x11_4 < 0) = true := decide_eq_true c32; clear c32; simp only [Option.some.injEq, Prod.mk.injEq] at H; obtain ⟨rfl, rfl⟩ := H
              go_wp2
              go_ret2
              exact ⟨by first | rfl | (simp [errW_none, errW_some] <;> rfl) | (simp only [← hji16, ← hji18]; first | rfl | (simp [errW_none, errW_some] <;> rfl)) | (simp [*, errW_none, errW_some] <;> rfl), by repeat (first | (with_reducible first | exact HB.out | apply bA_ | apply bN_ | apply bD_) | exact HB.out)⟩
             ·
              rw [if_neg c32] at H; have c32b0 : decide (x11_4 < 0) = false := decide_eq_false c32; clear c32; simp only [Option.some.injEq, Prod.mk.injEq] at H; obtain ⟨rfl, rfl⟩ := H
              go_wp2
              go_ret2
              exact ⟨by first | rfl | (simp [errW_none, errW_some] <;> rfl) | (simp only [← hji16, ← hji18]; first | rfl | (simp [errW_none, errW_some] <;> rfl)) | (simp [*, errW_none, errW_some] <;> rfl), by repeat (first | (with_reducible first | exact HB.out | apply bA_ | apply bN_ | apply bD_) | exact HB.out)⟩
           ·
            rw [if_neg c17] at H; exact absurd H (by simp)
        ·
         rw [if_neg c15] at H; have c15b0 : (x10_12 == 0) = false := beq_eq_false_iff_ne.mpr c15; have c15b1 : (x10_12 != 0) = true := bne_iff_ne.mpr c15; simp only [Option.some.injEq, Prod.mk.injEq] at H; obtain ⟨rfl, rfl⟩ := H
         go_wp2
         go_ret2
         exact ⟨by first | rfl | (simp [errW_none, errW_some] <;> rfl) | (simp [*, errW_none, errW_some] <;> rfl), by repeat (first | (with_reducible first | exact HB.out | apply bA_ | apply bN_ | apply bD_) | exact HB.out)⟩
end Go.Proofs.Ytpbobnpmiafbbaa.Q
