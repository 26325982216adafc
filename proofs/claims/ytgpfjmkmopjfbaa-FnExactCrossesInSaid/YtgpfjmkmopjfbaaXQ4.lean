-- Trimmed by a program of this session's.
import Derived.Test.YtgpfjmkmopjfbaaXQ0
import Derived.Test.YtgpfjmkmopjfbaaXQ1
import Derived.Test.YtgpfjmkmopjfbaaXQ2
import Derived.Test.YtgpfjmkmopjfbaaXQ3
namespace Go.Proofs.Ytgpfjmkmopjfbaa.Q
open Go.RowKit Go.Proofs.YtgpfjmkmopjfbaaW.PrintWords Go.Proofs.YtgpfjmkmopjfbaaW.PrintLast Go.Proofs.YtgpfjmkmopjfbaaW.PrintMore
attribute [local go_sem] max2_int min2_int max_two min_two max_three min_three max_four min_four
set_option linter.unusedVariables false
set_option linter.unusedSimpArgs false
mutual
def spec_l01Lay.j0 : Nat → List (S29) → Bool → List Int → List Int → Option (List Int × Bool)
 | 0, _, _, _, _ => none
 | k + 1, x0, x33, x145000, x146000 => if x33 = true then (if x146000.length = 144 then (if x145000.length = 144 then (some (x146000, false)) else (none)) else (none)) else (spec_l01Lay.l0 k x0 0 x145000 x146000)
def spec_l01Lay.l0 : Nat → List (S29) → Int → List Int → List Int → Option (List Int × Bool)
 | 0, _, _, _, _ => none
 | k + 1, x0, x5, x145000, x146000 => if 0 < (x0.length : Int) then (if x5 < (((rd_T29 x0 0).f2).length : Int) then (if 0 ≤ x5 then ((spec_l01Lies.f x0 ((rd_T31 ((rd_T29 x0 0).f2) x5).f0) ((rd_T31 ((rd_T29 x0 0).f2) x5).f1) ((rd_T31 ((rd_T29 x0 0).f2) x5).f2) ((rd_T31 ((rd_T29 x0 0).f2) x5).f3)).bind fun t160 => (if t160 = true then (if x5 > 0 then (if 0 ≤ (wrap64 (x5 - 1)) then (if (wrap64 (x5 - 1)) < (((rd_T29 x0 0).f2).length : Int) then ((spec_l01Before.f ((rd_T31 ((rd_T29 x0 0).f2) (wrap64 (x5 - 1))).f0) ((rd_T31 ((rd_T29 x0 0).f2) (wrap64 (x5 - 1))).f1) ((rd_T31 ((rd_T29 x0 0).f2) (wrap64 (x5 - 1))).f2) ((rd_T31 ((rd_T29 x0 0).f2) (wrap64 (x5 - 1))).f3) ((rd_T31 ((rd_T29 x0 0).f2) x5).f0) ((rd_T31 ((rd_T29 x0 0).f2) x5).f1) ((rd_T31 ((rd_T29 x0 0).f2) x5).f2) ((rd_T31 ((rd_T29 x0 0).f2) x5).f3)).bind fun t164 => (spec_l01Lay.j2 k x0 x5 (!t164) x145000 x146000 ((rd_T31 ((rd_T29 x0 0).f2) x5).f0) ((rd_T31 ((rd_T29 x0 0).f2) x5).f1) ((rd_T31 ((rd_T29 x0 0).f2) x5).f2) ((rd_T31 ((rd_T29 x0 0).f2) x5).f3))) else (none)) else (none)) else (spec_l01Lay.j2 k x0 x5 false x145000 x146000 ((rd_T31 ((rd_T29 x0 0).f2) x5).f0) ((rd_T31 ((rd_T29 x0 0).f2) x5).f1) ((rd_T31 ((rd_T29 x0 0).f2) x5).f2) ((rd_T31 ((rd_T29 x0 0).f2) x5).f3))) else (spec_l01Lay.j2 k x0 x5 true x145000 x146000 ((rd_T31 ((rd_T29 x0 0).f2) x5).f0) ((rd_T31 ((rd_T29 x0 0).f2) x5).f1) ((rd_T31 ((rd_T29 x0 0).f2) x5).f2) ((rd_T31 ((rd_T29 x0 0).f2) x5).f3)))) else (none)) else (if x146000.length = 144 then (if x145000.length = 144 then (some (x146000, true)) else (none)) else (none))) else (none)
def spec_l01Lay.j2 : Nat → List (S29) → Int → Bool → List Int → List Int → Int → Int → Int → Int → Option (List Int × Bool)
 | 0, _, _, _, _, _, _, _, _, _ => none
 | k + 1, x0, x5, x71, x145000, x146000, x160000, x160001, x160002, x160003 => if x71 = true then (if x146000.length = 144 then (if x145000.length = 144 then (some (x146000, false)) else (none)) else (none)) else (spec_l01Lay.l1 k x0 x5 x160001 x145000 x146000 x160000 x160001 x160002 x160003)
def spec_l01Lay.l1 : Nat → List (S29) → Int → Int → List Int → List Int → Int → Int → Int → Int → Option (List Int × Bool)
 | 0, _, _, _, _, _, _, _, _, _ => none
 | k + 1, x0, x5, x7, x145000, x146000, x160000, x160001, x160002, x160003 => if x7 < (IntKind.i8.wrap (x160001 + x160003)) then (spec_l01Lay.l2 k x0 x5 x7 x160000 x145000 x146000 x160000 x160001 x160002 x160003) else (spec_l01Lay.l0 k x0 (wrap64 (x5 + 1)) x145000 x146000)
def spec_l01Lay.l2 : Nat → List (S29) → Int → Int → Int → List Int → List Int → Int → Int → Int → Int → Option (List Int × Bool)
 | 0, _, _, _, _, _, _, _, _, _, _ => none
 | k + 1, x0, x5, x7, x8, x145000, x146000, x160000, x160001, x160002, x160003 => if x8 < (IntKind.i8.wrap (x160000 + x160002)) then (if 0 ≤ x7 then (if x7 < 12 then (if 0 ≤ x8 then (if x8 < 12 then (if x7 * 12 + x8 < (x146000.length : Int) then (if (rd x146000 (x7 * 12 + x8)) = 0 then (spec_l01Lay.l2 k x0 x5 x7 (IntKind.i8.wrap (x8 + 1)) x145000 (x146000.set (x7 * 12 + x8 : Int).toNat (wrap64 (x5 + 1))) x160000 x160001 x160002 x160003) else (if x146000.length = 144 then (if x145000.length = 144 then (some (x146000, false)) else (none)) else (none))) else (none)) else (none)) else (none)) else (none)) else (none)) else (spec_l01Lay.l1 k x0 x5 (IntKind.i8.wrap (x7 + 1)) x145000 x146000 x160000 x160001 x160002 x160003)
end
def spec_l01Lay.f (k : Nat) (l0 : List (S29)) : Option (List Int × Bool) := if 0 < (l0.length : Int) then ((spec_l01Edge.f (wrap64 ((rd_T29 l0 0).f0))).bind fun t148 => (if t148 = true then ((spec_l01Edge.f (wrap64 ((rd_T29 l0 0).f1))).bind fun t151 => (if t151 = true then (spec_l01Lay.j0 k l0 (decide ((((rd_T29 l0 0).f2).length : Int) > 60)) (arrZ 144) (arrZ 144)) else (spec_l01Lay.j0 k l0 true (arrZ 144) (arrZ 144)))) else (spec_l01Lay.j0 k l0 true (arrZ 144) (arrZ 144)))) else (none)
theorem spec_l01Lay.mono_l : ∀ k, (∀ y0 y1 y2 y3, LeO (spec_l01Lay.j0 k y0 y1 y2 y3) (spec_l01Lay.j0 (k + 1) y0 y1 y2 y3)) ∧ (∀ y0 y1 y2 y3, LeO (spec_l01Lay.l0 k y0 y1 y2 y3) (spec_l01Lay.l0 (k + 1) y0 y1 y2 y3)) ∧ (∀ y0 y1 y2 y3 y4 y5 y6 y7 y8, LeO (spec_l01Lay.j2 k y0 y1 y2 y3 y4 y5 y6 y7 y8) (spec_l01Lay.j2 (k + 1) y0 y1 y2 y3 y4 y5 y6 y7 y8)) ∧ (∀ y0 y1 y2 y3 y4 y5 y6 y7 y8, LeO (spec_l01Lay.l1 k y0 y1 y2 y3 y4 y5 y6 y7 y8) (spec_l01Lay.l1 (k + 1) y0 y1 y2 y3 y4 y5 y6 y7 y8)) ∧ (∀ y0 y1 y2 y3 y4 y5 y6 y7 y8 y9, LeO (spec_l01Lay.l2 k y0 y1 y2 y3 y4 y5 y6 y7 y8 y9) (spec_l01Lay.l2 (k + 1) y0 y1 y2 y3 y4 y5 y6 y7 y8 y9))
 | 0 => ⟨fun _ _ _ _ r h => by simp [spec_l01Lay.j0] at h, fun _ _ _ _ r h => by simp [spec_l01Lay.l0] at h, fun _ _ _ _ _ _ _ _ _ r h => by simp [spec_l01Lay.j2] at h, fun _ _ _ _ _ _ _ _ _ r h => by simp [spec_l01Lay.l1] at h, fun _ _ _ _ _ _ _ _ _ _ r h => by simp [spec_l01Lay.l2] at h⟩
 | k + 1 => by
  obtain ⟨ih0, ih1, ih2, ih3, ih4⟩ := spec_l01Lay.mono_l k; refine ⟨?_, ?_, ?_, ?_, ?_⟩
  ·
   intro y0 y1 y2 y3
   unfold spec_l01Lay.j0
   repeat' first
   | (with_reducible exact ih0 _ _ _ _)
   | (with_reducible exact ih1 _ _ _ _)
   | (with_reducible exact ih2 _ _ _ _ _ _ _ _ _)
   | (with_reducible exact ih3 _ _ _ _ _ _ _ _ _)
   | (with_reducible exact ih4 _ _ _ _ _ _ _ _ _ _)
   | (with_reducible exact LeO.refl _)
   | (with_reducible exact LeO.none _)
   | (with_reducible refine LeO.ite ?_ ?_)
   | (with_reducible refine LeO.bind ?_ (fun _ => ?_))
   | exact ih0 _ _ _ _
   | exact ih1 _ _ _ _
   | exact ih2 _ _ _ _ _ _ _ _ _
   | exact ih3 _ _ _ _ _ _ _ _ _
   | exact ih4 _ _ _ _ _ _ _ _ _ _
   | exact LeO.none _
   | refine LeO.ite ?_ ?_
   | refine LeO.bind ?_ (fun _ => ?_)
  ·
   intro y0 y1 y2 y3
   unfold spec_l01Lay.l0
   repeat' first
   | (with_reducible exact ih0 _ _ _ _)
   | (with_reducible exact ih1 _ _ _ _)
   | (with_reducible exact ih2 _ _ _ _ _ _ _ _ _)
   | (with_reducible exact ih3 _ _ _ _ _ _ _ _ _)
   | (with_reducible exact ih4 _ _ _ _ _ _ _ _ _ _)
   | (with_reducible exact LeO.refl _)
   | (with_reducible exact LeO.none _)
   | (with_reducible refine LeO.ite ?_ ?_)
   | (with_reducible refine LeO.bind ?_ (fun _ => ?_))
   | exact ih0 _ _ _ _
   | exact ih1 _ _ _ _
   | exact ih2 _ _ _ _ _ _ _ _ _
   | exact ih3 _ _ _ _ _ _ _ _ _
   | exact ih4 _ _ _ _ _ _ _ _ _ _
   | exact LeO.none _
   | refine LeO.ite ?_ ?_
   | refine LeO.bind ?_ (fun _ => ?_)
  ·
   intro y0 y1 y2 y3 y4 y5 y6 y7 y8
   unfold spec_l01Lay.j2
   repeat' first
   | (with_reducible exact ih0 _ _ _ _)
   | (with_reducible exact ih1 _ _ _ _)
   | (with_reducible exact ih2 _ _ _ _ _ _ _ _ _)
   | (with_reducible exact ih3 _ _ _ _ _ _ _ _ _)
   | (with_reducible exact ih4 _ _ _ _ _ _ _ _ _ _)
   | (with_reducible exact LeO.refl _)
   | (with_reducible exact LeO.none _)
   | (with_reducible refine LeO.ite ?_ ?_)
   | (with_reducible refine LeO.bind ?_ (fun _ => ?_))
   | exact ih0 _ _ _ _
   | exact ih1 _ _ _ _
   | exact ih2 _ _ _ _ _ _ _ _ _
   | exact ih3 _ _ _ _ _ _ _ _ _
   | exact ih4 _ _ _ _ _ _ _ _ _ _
   | exact LeO.none _
   | refine LeO.ite ?_ ?_
   | refine LeO.bind ?_ (fun _ => ?_)
  ·
   intro y0 y1 y2 y3 y4 y5 y6 y7 y8
   unfold spec_l01Lay.l1
   repeat' first
   | (with_reducible exact ih0 _ _ _ _)
   | (with_reducible exact ih1 _ _ _ _)
   | (with_reducible exact ih2 _ _ _ _ _ _ _ _ _)
   | (with_reducible exact ih3 _ _ _ _ _ _ _ _ _)
   | (with_reducible exact ih4 _ _ _ _ _ _ _ _ _ _)
   | (with_reducible exact LeO.refl _)
   | (with_reducible exact LeO.none _)
   | (with_reducible refine LeO.ite ?_ ?_)
   | (with_reducible refine LeO.bind ?_ (fun _ => ?_))
   | exact ih0 _ _ _ _
   | exact ih1 _ _ _ _
   | exact ih2 _ _ _ _ _ _ _ _ _
   | exact ih3 _ _ _ _ _ _ _ _ _
   | exact ih4 _ _ _ _ _ _ _ _ _ _
   | exact LeO.none _
   | refine LeO.ite ?_ ?_
   | refine LeO.bind ?_ (fun _ => ?_)
  ·
   intro y0 y1 y2 y3 y4 y5 y6 y7 y8 y9
   unfold spec_l01Lay.l2
   repeat' first
   | (with_reducible exact ih0 _ _ _ _)
   | (with_reducible exact ih1 _ _ _ _)
   | (with_reducible exact ih2 _ _ _ _ _ _ _ _ _)
   | (with_reducible exact ih3 _ _ _ _ _ _ _ _ _)
   | (with_reducible exact ih4 _ _ _ _ _ _ _ _ _ _)
   | (with_reducible exact LeO.refl _)
   | (with_reducible exact LeO.none _)
   | (with_reducible refine LeO.ite ?_ ?_)
   | (with_reducible refine LeO.bind ?_ (fun _ => ?_))
   | exact ih0 _ _ _ _
   | exact ih1 _ _ _ _
   | exact ih2 _ _ _ _ _ _ _ _ _
   | exact ih3 _ _ _ _ _ _ _ _ _
   | exact ih4 _ _ _ _ _ _ _ _ _ _
   | exact LeO.none _
   | refine LeO.ite ?_ ?_
   | refine LeO.bind ?_ (fun _ => ?_)
theorem spec_l01Lay.mono : ∀ a0 k, LeO (spec_l01Lay.f k a0) (spec_l01Lay.f (k + 1) a0) := by
 intro a0 k; obtain ⟨ih0, ih1, ih2, ih3, ih4⟩ := spec_l01Lay.mono_l k
 unfold spec_l01Lay.f
 repeat' first
   | (with_reducible exact ih0 _ _ _ _)
   | (with_reducible exact ih1 _ _ _ _)
   | (with_reducible exact ih2 _ _ _ _ _ _ _ _ _)
   | (with_reducible exact ih3 _ _ _ _ _ _ _ _ _)
   | (with_reducible exact ih4 _ _ _ _ _ _ _ _ _ _)
   | (with_reducible exact LeO.refl _)
   | (with_reducible exact LeO.none _)
   | (with_reducible refine LeO.ite ?_ ?_)
   | (with_reducible refine LeO.bind ?_ (fun _ => ?_))
   | exact ih0 _ _ _ _
   | exact ih1 _ _ _ _
   | exact ih2 _ _ _ _ _ _ _ _ _
   | exact ih3 _ _ _ _ _ _ _ _ _
   | exact ih4 _ _ _ _ _ _ _ _ _ _
   | exact LeO.none _
   | refine LeO.ite ?_ ?_
   | refine LeO.bind ?_ (fun _ => ?_)
def spec_l01Lay.T8 : Bool × List (List Nat × List Nat) := (true, [([], []), ([], []), ([0, 1], [0, 1]), ([2], [2]), ([3, 2], [3]), ([4], [4]), ([5, 4], [4, 5]), ([6, 4, 4], [4, 6]), ([7], [7]), ([8, 7], [7, 8]), ([9, 7], [7, 9]), ([10, 7], [7, 10]), ([7], [7]), ([12, 7], [7, 12]), ([11, 13, 7], [7, 11, 13]), ([14, 7], [7, 14]), ([7], [7]), ([15, 16, 7, 7], [7, 15, 16]), ([17, 7], [7, 17]), ([7, 18, 4], [4, 7, 18]), ([4, 19], [4, 19])])
def spec_l01Lay.B8 : List Nat := [0, 0, 3, 7, 15, 31, 63, 127, 255, 511, 1023, 2047, 255, 4351, 16383, 32767, 255, 131071, 262143, 524287, 1048575]
theorem spec_l01Lay.tab8 : rtab .any (opsOf Try.f31 8) = spec_l01Lay.T8 := by kernel_rfl
theorem spec_l01Lay.bits8 : waitsOk spec_l01Lay.T8.2 spec_l01Lay.B8 = true := by kernel_rfl
set_option maxHeartbeats 8000000 in
set_option maxRecDepth 100000 in
theorem spec_l01Lay.calls (k : Nat) (A0 : Option Addr) (c0 : Nat) (l0 : List (S29)) (r1 : List Int) (r2 : Bool) (w : World) (hr0 : Kd.C k29 w A0 l0.length l0) (hc0 : l0.length ≤ c0) (h : spec_l01Lay.f k l0 = some (r1, r2)) :
  Calls Try.prog 31 #[.pointer A0] w fun e w' => e = .returned (.tuple #[.agg (arrC .i64 r1), .bool r2]) ∧ Below w.heap.size w w' := by
 have hu60 := Try.underlying60; have hu31 := Try.underlying31; have HR0 := am_ hr0; have HC0 := am_ hc0; clear hr0 hc0; have HB := am_ (Below.refl w.heap.size w); have H : (if 0 < (l0.length : Int) then ((spec_l01Edge.f (wrap64 ((rd_T29 l0 0).f0))).bind fun t148 => (if t148 = true then ((spec_l01Edge.f (wrap64 ((rd_T29 l0 0).f1))).bind fun t151 => (if t151 = true then (spec_l01Lay.j0 k l0 (decide ((((rd_T29 l0 0).f2).length : Int) > 60)) (arrZ 144) (arrZ 144)) else (spec_l01Lay.j0 k l0 true (arrZ 144) (arrZ 144)))) else (spec_l01Lay.j0 k l0 true (arrZ 144) (arrZ 144)))) else (none)) = some (r1, r2) := h; clear h; have HC2 := am_ H; clear H
 go_enter Try.func31, Try.ntmps31
 go_upto_region 2 with (first | ((with_reducible refine gate_dst (N := 2) rfl ?_); (try (refine gate_guard (by rfl) ?_; dsimp only)); refine box_event ?hg (N := 2) ?hd (cs := (arrC .i64 (arrZ 144))) (t := 60) ?hr ?_; (case hd => rfl); (case hg => rfl); (case hr => exact arr_alloc rfl .i64 144 (by kernel_rfl)); intro gb144 hg w3 hbox hb; have n0_ := am_ (bT_ (by repeat (first | (with_reducible first | exact HB.out | apply bA_ | apply bN_ | apply bD_) | exact HB.out)) hb); have n1_ := am_ (hbox); have n2_ := am_ ((by rw [hg]; exact (bZ_ (by repeat (first | (with_reducible first | exact HB.out | apply bA_ | apply bN_ | apply bD_) | exact HB.out))) : w.heap.size ≤ gb144)); have n3_ := n2_; clear HB; have HB := n0_; have BK144 := n1_; have GW144 := n2_; have GE144 := n3_; clear n0_ n1_ n2_ n3_; clear hb hbox hg) | ((with_reducible refine gate_dst (N := 9) rfl ?_); (try (refine gate_guard (by rfl) ?_; dsimp only)); refine arr_build ?hg (N := 9) ?hd (t := 60) ?ho .i64 144 Try.underlying60 (by kernel_rfl) (by kernel_rfl) ?_; (case hd => rfl); (case hg => rfl); (case ho => rfl)) | ((with_reducible refine gate_dst (N := 4) rfl ?_); (try (refine gate_guard (by rfl) ?_; dsimp only)); refine box_event ?hg (N := 4) ?hd (cs := (arrC .i64 (arrZ 144))) (t := 60) ?hr ?_; (case hd => rfl); (case hg => rfl); (case hr => exact arr_alloc rfl .i64 144 (by kernel_rfl)); intro gb145 hg w4 hbox hb; have n0_ := am_ (kB_ (g := gb144) (o := .cells (arrC .i64 (arrZ 144)) 60 (0, 0)) (by (with_reducible repeat (first | apply kN_ | apply kD_ | apply kA_)); exact BK144.out) hb); have n1_ := am_ (bT_ (by repeat (first | (with_reducible first | exact HB.out | apply bA_ | apply bN_ | apply bD_ | refine bS_ ?_ GE144.out) | exact HB.out)) hb); have n2_ := am_ (hbox); have n3_ := am_ ((by rw [hg]; exact (bZ_ (by repeat (first | (with_reducible first | exact HB.out | apply bA_ | apply bN_ | apply bD_ | refine bS_ ?_ GE144.out) | exact HB.out))) : w.heap.size ≤ gb145)); have n4_ := n3_; have n5_ := am_ ((by rw [hg]; exact nL_ (kL_ (g := gb144) (o := .cells (arrC .i64 (arrZ 144)) 60 (0, 0)) (by (with_reducible repeat (first | apply kN_ | apply kD_ | apply kA_)); exact BK144.out)) : gb144 ≠ gb145)); have n6_ := am_ ((by rw [hg]; exact nG_ (kL_ (g := gb144) (o := .cells (arrC .i64 (arrZ 144)) 60 (0, 0)) (by (with_reducible repeat (first | apply kN_ | apply kD_ | apply kA_)); exact BK144.out)) : gb145 ≠ gb144)); clear BK144; clear HB; have BK144 := n0_; have HB := n1_; have BK145 := n2_; have GW145 := n3_; have GE145 := n4_; have NB144_145 := n5_; have NB145_144 := n6_; clear n0_ n1_ n2_ n3_ n4_ n5_ n6_; clear hb hbox hg) | ((with_reducible refine gate_store (t := 60) (p := 4) rfl ?_); refine arr_store (p := 4) (v := ?vv_w5) (n := 144) (k := .i64) (g := gb145) (l := (arrZ 144)) (l2 := (arrZ 144)) ?hg ?hn (t := 60) ?ho ?hp ?hv (by (with_reducible repeat (first | apply kN_ | apply kD_ | apply kA_)); exact BK145.out) (by kernel_rfl) (arrZ_length _) (arrZ_length _) ?_; (case ho => rfl); (case hg => rfl); (case hn => rfl); (case hp => rfl); (case hv => rfl); intro w5 hg hx; have n0_ := am_ (blk_grown (g := gb144) (o := .cells (arrC .i64 (arrZ 144)) 60 (0, 0)) (by (with_reducible repeat (first | apply kN_ | apply kD_ | apply kA_)); exact BK144.out) hg (fun e_ => NB144_145.out (Option.some.inj e_))); have n1_ := am_ (hx); have n2_ := am_ (Below.grown (by repeat (first | (with_reducible first | exact HB.out | apply bA_ | apply bN_ | apply bD_ | refine bS_ ?_ GE144.out | refine bS_ ?_ GE145.out) | exact HB.out)) hg (bZ_ (by repeat (first | (with_reducible first | exact HB.out | apply bA_ | apply bN_ | apply bD_ | refine bS_ ?_ GE144.out | refine bS_ ?_ GE145.out) | exact HB.out))) (fun k_ e_ => by cases e_; exact GE145.out)); clear BK144; clear BK145; clear HB; have BK144 := n0_; have BK145 := n1_; have HB := n2_; clear n0_ n1_ n2_; clear hg hx))
 (try simp only [Act.put, z1_, z2_, z3_])
 go_cut [33] (fun v33 wc => ∃ (kq : Nat) (x33_1 : Bool), v33 = .bool x33_1 ∧ Aside0 (spec_l01Lay.j0 kq l0 x33_1 (arrZ 144) (arrZ 144) = some (r1, r2)) ∧ Aside0 (kq ≤ k) ∧ Aside0 (wc.heap[gb144]? = some (.cells (arrC .i64 (arrZ 144)) 60 (0, 0))) ∧ Aside0 (wc.heap[gb145]? = some (.cells (arrC .i64 (arrZ 144)) 60 (0, 0))) ∧ Aside0 (Below w.heap.size w wc))
 case first =>
  have H := HC2.out; clear HC2
  by_cases c6 : 0 < (l0.length : Int)
  ·
   rw [if_pos c6] at H; have c6b0 : decide (0 < (l0.length : Int)) = true := decide_eq_true c6; have c6b1 : decide (0 < l0.length) = true := decide_eq_true (by omega); clear c6
   (first | rw [c6b0] | (simp only [i64_w, i32_w]; rw [c6b0]) | skip)
   replace H := Option.bind_eq_some_iff.mp H; obtain ⟨t148, A70, H⟩ := H; replace H : (if t148 = true then ((spec_l01Edge.f (wrap64 ((rd_T29 l0 0).f1))).bind fun t151 => (if t151 = true then (spec_l01Lay.j0 k l0 (decide ((((rd_T29 l0 0).f2).length : Int) > 60)) (arrZ 144) (arrZ 144)) else (spec_l01Lay.j0 k l0 true (arrZ 144) (arrZ 144)))) else (spec_l01Lay.j0 k l0 true (arrZ 144) (arrZ 144))) = some (r1, r2) := H; have A7 := am_ A70; clear A70
   by_cases c8 : t148 = true
   ·
    subst c8; have H1 : ((spec_l01Edge.f (wrap64 ((rd_T29 l0 0).f1))).bind fun t151 => (if t151 = true then (spec_l01Lay.j0 k l0 (decide ((((rd_T29 l0 0).f2).length : Int) > 60)) (arrZ 144) (arrZ 144)) else (spec_l01Lay.j0 k l0 true (arrZ 144) (arrZ 144)))) = some (r1, r2) := by rw [if_pos rfl] at H; exact H
    clear H; have H := H1; clear H1; replace H := Option.bind_eq_some_iff.mp H; obtain ⟨t151, A90, H⟩ := H; replace H : (if t151 = true then (spec_l01Lay.j0 k l0 (decide ((((rd_T29 l0 0).f2).length : Int) > 60)) (arrZ 144) (arrZ 144)) else (spec_l01Lay.j0 k l0 true (arrZ 144) (arrZ 144))) = some (r1, r2) := H; have A9 := am_ A90; clear A90
    by_cases c10 : t151 = true
    ·
     subst c10; have H1 : (spec_l01Lay.j0 k l0 (decide ((((rd_T29 l0 0).f2).length : Int) > 60)) (arrZ 144) (arrZ 144)) = some (r1, r2) := by rw [if_pos rfl] at H; exact H
     clear H; have H := H1; clear H1; have H' := am_ H; clear H; have p146 : 0 ≤ (0 : Int) := (by omega)
     have q146 : 0 < (l0.length : Int) := od_ (by first | (with_reducible assumption) | assumption); obtain ⟨ad146, A146_2, c146_2, e146, hx146_0, hx146_1, hx146_2, hl146_2, hi146_2⟩ := at_T29 HR0.out 0 p146 q146
     cases e146
     have qi146 : (0 < l0.length) = True := eq_true (by omega); (try rw [show ((0 : Int)).toNat = 0 from rfl] at hx146_0); (try rw [show 0 * 3 = 0 from rfl] at hx146_0); (try rw [Addr.add_zero'] at hx146_0); (try rw [show ((0 : Int)).toNat = 0 from rfl] at hx146_1); (try rw [show 0 * 3 = 0 from rfl] at hx146_1); (try rw [Addr.add_zero'] at hx146_1); (try rw [show ((0 : Int)).toNat = 0 from rfl] at hx146_2); (try rw [show 0 * 3 = 0 from rfl] at hx146_2); (try rw [Addr.add_zero'] at hx146_2); replace hx146_0 := (HB.out.cell (bl_ w _ hx146_0)).trans hx146_0; replace hx146_1 := (HB.out.cell (bl_ w _ hx146_1)).trans hx146_1; replace hx146_2 := (HB.out.cell (bl_ w _ hx146_2)).trans hx146_2; have HR146_2 := am_ hi146_2; have HC146_2 := am_ hl146_2; clear hi146_2 hl146_2; replace p146 := eq_true p146; replace q146 := eq_true q146; have p147 : 0 ≤ (0 : Int) := (by omega)
     have q147 : 0 < (l0.length : Int) := od_ (by first | (with_reducible assumption) | assumption); obtain ⟨ad147, A147_2, c147_2, e147, hx147_0, hx147_1, hx147_2, hl147_2, hi147_2⟩ := at_T29 HR0.out 0 p147 q147; obtain rfl : ad146 = ad147 := (by injection e147)
     have qi147 : (0 < l0.length) = True := eq_true (by omega); (try rw [show ((0 : Int)).toNat = 0 from rfl] at hx147_0); (try rw [show 0 * 3 = 0 from rfl] at hx147_0); (try rw [Addr.add_zero'] at hx147_0); (try rw [show ((0 : Int)).toNat = 0 from rfl] at hx147_1); (try rw [show 0 * 3 = 0 from rfl] at hx147_1); (try rw [Addr.add_zero'] at hx147_1); (try rw [show ((0 : Int)).toNat = 0 from rfl] at hx147_2); (try rw [show 0 * 3 = 0 from rfl] at hx147_2); (try rw [Addr.add_zero'] at hx147_2); replace hx147_0 := (HB.out.cell (bl_ w _ hx147_0)).trans hx147_0; replace hx147_1 := (HB.out.cell (bl_ w _ hx147_1)).trans hx147_1; replace hx147_2 := (HB.out.cell (bl_ w _ hx147_2)).trans hx147_2; have HR147_2 := am_ hi147_2; have HC147_2 := am_ hl147_2; clear hi147_2 hl147_2; replace p147 := eq_true p147; replace q147 := eq_true q147; have ea_ := Option.some.inj (hx146_2.symm.trans hx147_2)
     injection ea_ with ea_ en_ ec_
     subst ea_; subst ec_; clear en_
     go_wp2_with (first | ((with_reducible refine gate_callee (f := 49) rfl ?_); refine goesL_ (some 15) rfl rfl Try.func49 (by kernel_rfl) rfl #[.int .i64 (wrap64 ((rd_T29 l0 0).f0))] rfl (by (try simp only [List.map_toArray, List.map_cons, List.map_nil]); first | done | rfl | (simp only [List.length_drop, List.length_take]; rfl)) ?_; (with_reducible refine (spec_l01Edge.calls (wrap64 ((rd_T29 l0 0).f0)) true _ A7.out).mono ?_); rintro e w' ⟨rfl, ⟨nd, rfl⟩⟩; refine ⟨_, rfl, ?_⟩; have p149 : 0 ≤ (0 : Int) := (by omega); have q149 : 0 < (l0.length : Int) := od_ (by first | (with_reducible assumption) | assumption); obtain ⟨ad149, A149_2, c149_2, e149, hx149_0, hx149_1, hx149_2, hl149_2, hi149_2⟩ := at_T29 HR0.out 0 p149 q149; obtain rfl : ad146 = ad149 := (by injection e149); have qi149 : (0 < l0.length) = True := eq_true (by omega); (try rw [show ((0 : Int)).toNat = 0 from rfl] at hx149_0); (try rw [show 0 * 3 = 0 from rfl] at hx149_0); (try rw [Addr.add_zero'] at hx149_0); (try rw [show ((0 : Int)).toNat = 0 from rfl] at hx149_1); (try rw [show 0 * 3 = 0 from rfl] at hx149_1); (try rw [Addr.add_zero'] at hx149_1); (try rw [show ((0 : Int)).toNat = 0 from rfl] at hx149_2); (try rw [show 0 * 3 = 0 from rfl] at hx149_2); (try rw [Addr.add_zero'] at hx149_2); replace hx149_0 := (HB.out.cell (bl_ w _ hx149_0)).trans hx149_0; replace hx149_1 := (HB.out.cell (bl_ w _ hx149_1)).trans hx149_1; replace hx149_2 := (HB.out.cell (bl_ w _ hx149_2)).trans hx149_2; have HR149_2 := am_ hi149_2; have HC149_2 := am_ hl149_2; clear hi149_2 hl149_2; replace p149 := eq_true p149; replace q149 := eq_true q149; have ea_ := Option.some.inj (hx146_2.symm.trans hx149_2); injection ea_ with ea_ en_ ec_; subst ea_; subst ec_; clear en_; have p150 : 0 ≤ (0 : Int) := (by omega); have q150 : 0 < (l0.length : Int) := od_ (by first | (with_reducible assumption) | assumption); obtain ⟨ad150, A150_2, c150_2, e150, hx150_0, hx150_1, hx150_2, hl150_2, hi150_2⟩ := at_T29 HR0.out 0 p150 q150; obtain rfl : ad146 = ad150 := (by injection e150); have qi150 : (0 < l0.length) = True := eq_true (by omega); (try rw [show ((0 : Int)).toNat = 0 from rfl] at hx150_0); (try rw [show 0 * 3 = 0 from rfl] at hx150_0); (try rw [Addr.add_zero'] at hx150_0); (try rw [show ((0 : Int)).toNat = 0 from rfl] at hx150_1); (try rw [show 0 * 3 = 0 from rfl] at hx150_1); (try rw [Addr.add_zero'] at hx150_1); (try rw [show ((0 : Int)).toNat = 0 from rfl] at hx150_2); (try rw [show 0 * 3 = 0 from rfl] at hx150_2); (try rw [Addr.add_zero'] at hx150_2); replace hx150_0 := (HB.out.cell (bl_ w _ hx150_0)).trans hx150_0; replace hx150_1 := (HB.out.cell (bl_ w _ hx150_1)).trans hx150_1; replace hx150_2 := (HB.out.cell (bl_ w _ hx150_2)).trans hx150_2; have HR150_2 := am_ hi150_2; have HC150_2 := am_ hl150_2; clear hi150_2 hl150_2; replace p150 := eq_true p150; replace q150 := eq_true q150; have ea_ := Option.some.inj (hx146_2.symm.trans hx150_2); injection ea_ with ea_ en_ ec_; subst ea_; subst ec_; clear en_) | (go_at_call 49; (with_reducible refine (spec_l01Edge.calls (wrap64 ((rd_T29 l0 0).f1)) true _ A9.out).mono ?_); rintro e w' ⟨rfl, ⟨nd, rfl⟩⟩; have p152 : 0 ≤ (0 : Int) := (by omega); have q152 : 0 < (l0.length : Int) := od_ (by first | (with_reducible assumption) | assumption); obtain ⟨ad152, A152_2, c152_2, e152, hx152_0, hx152_1, hx152_2, hl152_2, hi152_2⟩ := at_T29 HR0.out 0 p152 q152; obtain rfl : ad146 = ad152 := (by injection e152); have qi152 : (0 < l0.length) = True := eq_true (by omega); (try rw [show ((0 : Int)).toNat = 0 from rfl] at hx152_0); (try rw [show 0 * 3 = 0 from rfl] at hx152_0); (try rw [Addr.add_zero'] at hx152_0); (try rw [show ((0 : Int)).toNat = 0 from rfl] at hx152_1); (try rw [show 0 * 3 = 0 from rfl] at hx152_1); (try rw [Addr.add_zero'] at hx152_1); (try rw [show ((0 : Int)).toNat = 0 from rfl] at hx152_2); (try rw [show 0 * 3 = 0 from rfl] at hx152_2); (try rw [Addr.add_zero'] at hx152_2); replace hx152_0 := (HB.out.cell (bl_ w _ hx152_0)).trans hx152_0; replace hx152_1 := (HB.out.cell (bl_ w _ hx152_1)).trans hx152_1; replace hx152_2 := (HB.out.cell (bl_ w _ hx152_2)).trans hx152_2; have HR152_2 := am_ hi152_2; have HC152_2 := am_ hl152_2; clear hi152_2 hl152_2; replace p152 := eq_true p152; replace q152 := eq_true q152; have ea_ := Option.some.inj (hx146_2.symm.trans hx152_2); injection ea_ with ea_ en_ ec_; subst ea_; subst ec_; clear en_; have p153 : 0 ≤ (0 : Int) := (by omega); have q153 : 0 < (l0.length : Int) := od_ (by first | (with_reducible assumption) | assumption); obtain ⟨ad153, A153_2, c153_2, e153, hx153_0, hx153_1, hx153_2, hl153_2, hi153_2⟩ := at_T29 HR0.out 0 p153 q153; obtain rfl : ad146 = ad153 := (by injection e153); have qi153 : (0 < l0.length) = True := eq_true (by omega); (try rw [show ((0 : Int)).toNat = 0 from rfl] at hx153_0); (try rw [show 0 * 3 = 0 from rfl] at hx153_0); (try rw [Addr.add_zero'] at hx153_0); (try rw [show ((0 : Int)).toNat = 0 from rfl] at hx153_1); (try rw [show 0 * 3 = 0 from rfl] at hx153_1); (try rw [Addr.add_zero'] at hx153_1); (try rw [show ((0 : Int)).toNat = 0 from rfl] at hx153_2); (try rw [show 0 * 3 = 0 from rfl] at hx153_2); (try rw [Addr.add_zero'] at hx153_2); replace hx153_0 := (HB.out.cell (bl_ w _ hx153_0)).trans hx153_0; replace hx153_1 := (HB.out.cell (bl_ w _ hx153_1)).trans hx153_1; replace hx153_2 := (HB.out.cell (bl_ w _ hx153_2)).trans hx153_2; have HR153_2 := am_ hi153_2; have HC153_2 := am_ hl153_2; clear hi153_2 hl153_2; replace p153 := eq_true p153; replace q153 := eq_true q153; have ea_ := Option.some.inj (hx146_2.symm.trans hx153_2); injection ea_ with ea_ en_ ec_; subst ea_; subst ec_; clear en_))
     go_meet
     case rel => exact ⟨_, (decide ((((rd_T29 l0 0).f2).length : Int) > 60)), (by first | rfl | (simp; done) | (simp [*]; done)), H', ⟨by first | omega | exact Nat.le_refl _⟩, ⟨by (with_reducible repeat (first | apply kN_ | apply kD_ | apply kA_)); exact BK144.out⟩, ⟨by (with_reducible repeat (first | apply kN_ | apply kD_ | apply kA_)); exact BK145.out⟩, ⟨by repeat (first | (with_reducible first | exact HB.out | apply bA_ | apply bN_ | apply bD_ | refine bS_ ?_ GE144.out | refine bS_ ?_ GE145.out) | exact HB.out)⟩⟩
    ·
     replace c10 := Bool.eq_false_iff.mpr c10; subst c10; have H1 : (spec_l01Lay.j0 k l0 true (arrZ 144) (arrZ 144)) = some (r1, r2) := by rw [if_neg (show ¬ (false = true) by decide)] at H; exact H
     clear H; have H := H1; clear H1; have H' := am_ H; clear H; have p146 : 0 ≤ (0 : Int) := (by omega)
     have q146 : 0 < (l0.length : Int) := od_ (by first | (with_reducible assumption) | assumption); obtain ⟨ad146, A146_2, c146_2, e146, hx146_0, hx146_1, hx146_2, hl146_2, hi146_2⟩ := at_T29 HR0.out 0 p146 q146
     cases e146
     have qi146 : (0 < l0.length) = True := eq_true (by omega); (try rw [show ((0 : Int)).toNat = 0 from rfl] at hx146_0); (try rw [show 0 * 3 = 0 from rfl] at hx146_0); (try rw [Addr.add_zero'] at hx146_0); (try rw [show ((0 : Int)).toNat = 0 from rfl] at hx146_1); (try rw [show 0 * 3 = 0 from rfl] at hx146_1); (try rw [Addr.add_zero'] at hx146_1); (try rw [show ((0 : Int)).toNat = 0 from rfl] at hx146_2); (try rw [show 0 * 3 = 0 from rfl] at hx146_2); (try rw [Addr.add_zero'] at hx146_2); replace hx146_0 := (HB.out.cell (bl_ w _ hx146_0)).trans hx146_0; replace hx146_1 := (HB.out.cell (bl_ w _ hx146_1)).trans hx146_1; replace hx146_2 := (HB.out.cell (bl_ w _ hx146_2)).trans hx146_2; have HR146_2 := am_ hi146_2; have HC146_2 := am_ hl146_2; clear hi146_2 hl146_2; replace p146 := eq_true p146; replace q146 := eq_true q146; have p147 : 0 ≤ (0 : Int) := (by omega)
     have q147 : 0 < (l0.length : Int) := od_ (by first | (with_reducible assumption) | assumption); obtain ⟨ad147, A147_2, c147_2, e147, hx147_0, hx147_1, hx147_2, hl147_2, hi147_2⟩ := at_T29 HR0.out 0 p147 q147; obtain rfl : ad146 = ad147 := (by injection e147)
     have qi147 : (0 < l0.length) = True := eq_true (by omega); (try rw [show ((0 : Int)).toNat = 0 from rfl] at hx147_0); (try rw [show 0 * 3 = 0 from rfl] at hx147_0); (try rw [Addr.add_zero'] at hx147_0); (try rw [show ((0 : Int)).toNat = 0 from rfl] at hx147_1); (try rw [show 0 * 3 = 0 from rfl] at hx147_1); (try rw [Addr.add_zero'] at hx147_1); (try rw [show ((0 : Int)).toNat = 0 from rfl] at hx147_2); (try rw [show 0 * 3 = 0 from rfl] at hx147_2); (try rw [Addr.add_zero'] at hx147_2); replace hx147_0 := (HB.out.cell (bl_ w _ hx147_0)).trans hx147_0; replace hx147_1 := (HB.out.cell (bl_ w _ hx147_1)).trans hx147_1; replace hx147_2 := (HB.out.cell (bl_ w _ hx147_2)).trans hx147_2; have HR147_2 := am_ hi147_2; have HC147_2 := am_ hl147_2; clear hi147_2 hl147_2; replace p147 := eq_true p147; replace q147 := eq_true q147; have ea_ := Option.some.inj (hx146_2.symm.trans hx147_2)
     injection ea_ with ea_ en_ ec_
     subst ea_; subst ec_; clear en_
     go_wp2_with (first | ((with_reducible refine gate_callee (f := 49) rfl ?_); refine goesL_ (some 15) rfl rfl Try.func49 (by kernel_rfl) rfl #[.int .i64 (wrap64 ((rd_T29 l0 0).f0))] rfl (by (try simp only [List.map_toArray, List.map_cons, List.map_nil]); first | done | rfl | (simp only [List.length_drop, List.length_take]; rfl)) ?_; (with_reducible refine (spec_l01Edge.calls (wrap64 ((rd_T29 l0 0).f0)) true _ A7.out).mono ?_); rintro e w' ⟨rfl, ⟨nd, rfl⟩⟩; refine ⟨_, rfl, ?_⟩; have p149 : 0 ≤ (0 : Int) := (by omega); have q149 : 0 < (l0.length : Int) := od_ (by first | (with_reducible assumption) | assumption); obtain ⟨ad149, A149_2, c149_2, e149, hx149_0, hx149_1, hx149_2, hl149_2, hi149_2⟩ := at_T29 HR0.out 0 p149 q149; obtain rfl : ad146 = ad149 := (by injection e149); have qi149 : (0 < l0.length) = True := eq_true (by omega); (try rw [show ((0 : Int)).toNat = 0 from rfl] at hx149_0); (try rw [show 0 * 3 = 0 from rfl] at hx149_0); (try rw [Addr.add_zero'] at hx149_0); (try rw [show ((0 : Int)).toNat = 0 from rfl] at hx149_1); (try rw [show 0 * 3 = 0 from rfl] at hx149_1); (try rw [Addr.add_zero'] at hx149_1); (try rw [show ((0 : Int)).toNat = 0 from rfl] at hx149_2); (try rw [show 0 * 3 = 0 from rfl] at hx149_2); (try rw [Addr.add_zero'] at hx149_2); replace hx149_0 := (HB.out.cell (bl_ w _ hx149_0)).trans hx149_0; replace hx149_1 := (HB.out.cell (bl_ w _ hx149_1)).trans hx149_1; replace hx149_2 := (HB.out.cell (bl_ w _ hx149_2)).trans hx149_2; have HR149_2 := am_ hi149_2; have HC149_2 := am_ hl149_2; clear hi149_2 hl149_2; replace p149 := eq_true p149; replace q149 := eq_true q149; have ea_ := Option.some.inj (hx146_2.symm.trans hx149_2); injection ea_ with ea_ en_ ec_; subst ea_; subst ec_; clear en_; have p150 : 0 ≤ (0 : Int) := (by omega); have q150 : 0 < (l0.length : Int) := od_ (by first | (with_reducible assumption) | assumption); obtain ⟨ad150, A150_2, c150_2, e150, hx150_0, hx150_1, hx150_2, hl150_2, hi150_2⟩ := at_T29 HR0.out 0 p150 q150; obtain rfl : ad146 = ad150 := (by injection e150); have qi150 : (0 < l0.length) = True := eq_true (by omega); (try rw [show ((0 : Int)).toNat = 0 from rfl] at hx150_0); (try rw [show 0 * 3 = 0 from rfl] at hx150_0); (try rw [Addr.add_zero'] at hx150_0); (try rw [show ((0 : Int)).toNat = 0 from rfl] at hx150_1); (try rw [show 0 * 3 = 0 from rfl] at hx150_1); (try rw [Addr.add_zero'] at hx150_1); (try rw [show ((0 : Int)).toNat = 0 from rfl] at hx150_2); (try rw [show 0 * 3 = 0 from rfl] at hx150_2); (try rw [Addr.add_zero'] at hx150_2); replace hx150_0 := (HB.out.cell (bl_ w _ hx150_0)).trans hx150_0; replace hx150_1 := (HB.out.cell (bl_ w _ hx150_1)).trans hx150_1; replace hx150_2 := (HB.out.cell (bl_ w _ hx150_2)).trans hx150_2; have HR150_2 := am_ hi150_2; have HC150_2 := am_ hl150_2; clear hi150_2 hl150_2; replace p150 := eq_true p150; replace q150 := eq_true q150; have ea_ := Option.some.inj (hx146_2.symm.trans hx150_2); injection ea_ with ea_ en_ ec_; subst ea_; subst ec_; clear en_) | (go_at_call 49; (with_reducible refine (spec_l01Edge.calls (wrap64 ((rd_T29 l0 0).f1)) false _ A9.out).mono ?_); rintro e w' ⟨rfl, ⟨nd, rfl⟩⟩))
     go_meet
     case rel => exact ⟨_, (true), (by first | rfl | (simp; done) | (simp [*]; done)), H', ⟨by first | omega | exact Nat.le_refl _⟩, ⟨by (with_reducible repeat (first | apply kN_ | apply kD_ | apply kA_)); exact BK144.out⟩, ⟨by (with_reducible repeat (first | apply kN_ | apply kD_ | apply kA_)); exact BK145.out⟩, ⟨by repeat (first | (with_reducible first | exact HB.out | apply bA_ | apply bN_ | apply bD_ | refine bS_ ?_ GE144.out | refine bS_ ?_ GE145.out) | exact HB.out)⟩⟩
   ·
    replace c8 := Bool.eq_false_iff.mpr c8; subst c8; have H1 : (spec_l01Lay.j0 k l0 true (arrZ 144) (arrZ 144)) = some (r1, r2) := by rw [if_neg (show ¬ (false = true) by decide)] at H; exact H
    clear H; have H := H1; clear H1; have H' := am_ H; clear H; have p146 : 0 ≤ (0 : Int) := (by omega)
    have q146 : 0 < (l0.length : Int) := od_ (by first | (with_reducible assumption) | assumption); obtain ⟨ad146, A146_2, c146_2, e146, hx146_0, hx146_1, hx146_2, hl146_2, hi146_2⟩ := at_T29 HR0.out 0 p146 q146
    cases e146
    have qi146 : (0 < l0.length) = True := eq_true (by omega); (try rw [show ((0 : Int)).toNat = 0 from rfl] at hx146_0); (try rw [show 0 * 3 = 0 from rfl] at hx146_0); (try rw [Addr.add_zero'] at hx146_0); (try rw [show ((0 : Int)).toNat = 0 from rfl] at hx146_1); (try rw [show 0 * 3 = 0 from rfl] at hx146_1); (try rw [Addr.add_zero'] at hx146_1); (try rw [show ((0 : Int)).toNat = 0 from rfl] at hx146_2); (try rw [show 0 * 3 = 0 from rfl] at hx146_2); (try rw [Addr.add_zero'] at hx146_2); replace hx146_0 := (HB.out.cell (bl_ w _ hx146_0)).trans hx146_0; replace hx146_1 := (HB.out.cell (bl_ w _ hx146_1)).trans hx146_1; replace hx146_2 := (HB.out.cell (bl_ w _ hx146_2)).trans hx146_2; have HR146_2 := am_ hi146_2; have HC146_2 := am_ hl146_2; clear hi146_2 hl146_2; replace p146 := eq_true p146; replace q146 := eq_true q146; have p147 : 0 ≤ (0 : Int) := (by omega)
    have q147 : 0 < (l0.length : Int) := od_ (by first | (with_reducible assumption) | assumption); obtain ⟨ad147, A147_2, c147_2, e147, hx147_0, hx147_1, hx147_2, hl147_2, hi147_2⟩ := at_T29 HR0.out 0 p147 q147; obtain rfl : ad146 = ad147 := (by injection e147)
    have qi147 : (0 < l0.length) = True := eq_true (by omega); (try rw [show ((0 : Int)).toNat = 0 from rfl] at hx147_0); (try rw [show 0 * 3 = 0 from rfl] at hx147_0); (try rw [Addr.add_zero'] at hx147_0); (try rw [show ((0 : Int)).toNat = 0 from rfl] at hx147_1); (try rw [show 0 * 3 = 0 from rfl] at hx147_1); (try rw [Addr.add_zero'] at hx147_1); (try rw [show ((0 : Int)).toNat = 0 from rfl] at hx147_2); (try rw [show 0 * 3 = 0 from rfl] at hx147_2); (try rw [Addr.add_zero'] at hx147_2); replace hx147_0 := (HB.out.cell (bl_ w _ hx147_0)).trans hx147_0; replace hx147_1 := (HB.out.cell (bl_ w _ hx147_1)).trans hx147_1; replace hx147_2 := (HB.out.cell (bl_ w _ hx147_2)).trans hx147_2; have HR147_2 := am_ hi147_2; have HC147_2 := am_ hl147_2; clear hi147_2 hl147_2; replace p147 := eq_true p147; replace q147 := eq_true q147; have ea_ := Option.some.inj (hx146_2.symm.trans hx147_2)
    injection ea_ with ea_ en_ ec_
    subst ea_; subst ec_; clear en_
    go_wp2_with (first | ((with_reducible refine gate_callee (f := 49) rfl ?_); refine goesL_ (some 15) rfl rfl Try.func49 (by kernel_rfl) rfl #[.int .i64 (wrap64 ((rd_T29 l0 0).f0))] rfl (by (try simp only [List.map_toArray, List.map_cons, List.map_nil]); first | done | rfl | (simp only [List.length_drop, List.length_take]; rfl)) ?_; (with_reducible refine (spec_l01Edge.calls (wrap64 ((rd_T29 l0 0).f0)) false _ A7.out).mono ?_); rintro e w' ⟨rfl, ⟨nd, rfl⟩⟩; refine ⟨_, rfl, ?_⟩))
    go_meet
    case rel => exact ⟨_, (true), (by first | rfl | (simp; done) | (simp [*]; done)), H', ⟨by first | omega | exact Nat.le_refl _⟩, ⟨by (with_reducible repeat (first | apply kN_ | apply kD_ | apply kA_)); exact BK144.out⟩, ⟨by (with_reducible repeat (first | apply kN_ | apply kD_ | apply kA_)); exact BK145.out⟩, ⟨by repeat (first | (with_reducible first | exact HB.out | apply bA_ | apply bN_ | apply bD_ | refine bS_ ?_ GE144.out | refine bS_ ?_ GE145.out) | exact HB.out)⟩⟩
  ·
   rw [if_neg c6] at H; exact absurd H (by simp)
 case rest =>
  clear HC2; (try clear c1); (try clear p1); (try clear q1); (try clear hx1); (try clear qi1); (try clear p2); (try clear c3); (try clear c4); (try clear c6); (try clear c6b0); (try clear c6b1); (try clear p6); (try clear c8); (try clear c10); (try clear hx146_0); (try clear hx146_1); (try clear hx146_2); (try clear hx147_0); (try clear hx147_1); (try clear hx147_2); (try clear hx149_0); (try clear hx149_1); (try clear hx149_2); (try clear hx150_0); (try clear hx150_1); (try clear hx150_2); (try clear hx152_0); (try clear hx152_1); (try clear hx152_2); (try clear hx153_0); (try clear hx153_1); (try clear hx153_2); (try clear p146); (try clear p147); (try clear p149); (try clear p150); (try clear p152); (try clear p153); (try clear q146); (try clear q147); (try clear q149); (try clear q150); (try clear q152); (try clear q153); obtain ⟨kq, x33_1, rfl, HA, HJ1, BK144, BK145, HB⟩ := hcut
  cases kq with
  | zero => exact absurd HA.out (by simp [spec_l01Lay.j0])
  | succ kj1 =>
   have H := HA.out; clear HA; simp only [spec_l01Lay.j0] at H
   by_cases c11 : x33_1 = true
   ·
    subst c11; have H1 : (if (arrZ 144).length = 144 then (if (arrZ 144).length = 144 then (some ((arrZ 144), false)) else (none)) else (none)) = some (r1, r2) := by rw [if_pos rfl] at H; exact H
    clear H; have H := H1; clear H1
    by_cases c12 : (arrZ 144).length = 144
    ·
     rw [if_pos c12] at H; have c12b0 := eq_true c12; have c12b1 : decide ((arrZ 144).length = 144) = true := decide_eq_true c12; clear c12
     by_cases c13 : (arrZ 144).length = 144
     ·
      rw [if_pos c13] at H; have c13b0 := eq_true c13; have c13b1 : decide ((arrZ 144).length = 144) = true := decide_eq_true c13; clear c13; simp only [Option.some.injEq, Prod.mk.injEq] at H; obtain ⟨rfl, rfl⟩ := H
      go_wp2_with (first | ((with_reducible refine gate_dst (N := 34) rfl ?_); (try (refine gate_guard (by rfl) ?_; dsimp only)); refine arr_load (p := 4) (n := 144) (k := .i64) (g := gb145) (l := (arrZ 144)) ?hg (N := 34) ?hd (t := 60) ?ho ?hp (by (with_reducible repeat (first | apply kN_ | apply kD_ | apply kA_)); exact BK145.out) Try.underlying60 (by kernel_rfl) (od_ (by first | (with_reducible assumption) | assumption)) ?_; (case hd => rfl); (case hg => rfl); (case ho => rfl); (case hp => rfl)) | ((with_reducible refine gate_store (t := 60) (p := 2) rfl ?_); refine arr_store (p := 2) (v := ?vv_w14) (n := 144) (k := .i64) (g := gb144) (l := (arrZ 144)) (l2 := (arrZ 144)) ?hg ?hn (t := 60) ?ho ?hp ?hv (by (with_reducible repeat (first | apply kN_ | apply kD_ | apply kA_)); exact BK144.out) (by kernel_rfl) (od_ (by first | (with_reducible assumption) | assumption)) (od_ (by first | (with_reducible assumption) | assumption)) ?_; (case ho => rfl); (case hg => rfl); (case hn => rfl); (case hp => rfl); (case hv => rfl); intro w14 hg hx; have n0_ := am_ (hx); have n1_ := am_ (blk_grown (g := gb145) (o := .cells (arrC .i64 (arrZ 144)) 60 (0, 0)) (by (with_reducible repeat (first | apply kN_ | apply kD_ | apply kA_)); exact BK145.out) hg (fun e_ => NB145_144.out (Option.some.inj e_))); have n2_ := am_ (Below.grown (by repeat (first | (with_reducible first | exact HB.out | apply bA_ | apply bN_ | apply bD_ | refine bS_ ?_ GE144.out | refine bS_ ?_ GE145.out) | exact HB.out)) hg (bZ_ (by repeat (first | (with_reducible first | exact HB.out | apply bA_ | apply bN_ | apply bD_ | refine bS_ ?_ GE144.out | refine bS_ ?_ GE145.out) | exact HB.out))) (fun k_ e_ => by cases e_; exact GE144.out)); clear BK144; clear BK145; clear HB; have BK144 := n0_; have BK145 := n1_; have HB := n2_; clear n0_ n1_ n2_; clear hg hx))
      refine bodyPost_ret (results_ct rfl _ _ gb144 60 (arrC .i64 (arrZ 144)) (0, 0) _ rfl (by (with_reducible repeat (first | apply kN_ | apply kD_ | apply kA_)); exact BK144.out) Try.underlying60 rfl (by first | (rw [arrC_size, (od_ (by first | (with_reducible assumption) | assumption) : (arrZ 144).length = 144)]; kernel_rfl) | kernel_rfl)) rfl ?_; exact ⟨by first | rfl | (simp [errW_none, errW_some] <;> rfl) | (simp [*, errW_none, errW_some] <;> rfl), by repeat (first | (with_reducible first | exact HB.out | apply bA_ | apply bN_ | apply bD_ | refine bS_ ?_ GE144.out | refine bS_ ?_ GE145.out) | exact HB.out)⟩
     ·
      rw [if_neg c13] at H; exact absurd H (by simp)
    ·
     rw [if_neg c12] at H; exact absurd H (by simp)
   ·
    replace c11 := Bool.eq_false_iff.mpr c11; subst c11; have H1 : (spec_l01Lay.l0 kj1 l0 0 (arrZ 144) (arrZ 144)) = some (r1, r2) := by rw [if_neg (show ¬ (false = true) by decide)] at H; exact H
    clear H; have H := H1; clear H1; have H' := am_ H; clear H
    go_wp2
    go_loopg [5] kj1 (fun kq v5 w' => ∃ (x5_2 : Int) (x145000_2 : List Int) (x146000_2 : List Int), v5 = .int .i64 x5_2 ∧ Aside0 (spec_l01Lay.l0 kq l0 x5_2 x145000_2 x146000_2 = some (r1, r2)) ∧ Aside0 (kq ≤ kj1) ∧ Aside0 (w'.heap[gb144]? = some (.cells (arrC .i64 x145000_2) 60 (0, 0))) ∧ Aside0 (w'.heap[gb145]? = some (.cells (arrC .i64 x146000_2) 60 (0, 0))) ∧ Aside0 (Below w.heap.size w w'))
    case atStart => exact ⟨(0), ((arrZ 144)), ((arrZ 144)), (by first | rfl | (simp; done) | (simp [*]; done)), H', ⟨Nat.le_refl _⟩, ⟨by (with_reducible repeat (first | apply kN_ | apply kD_ | apply kA_)); exact BK144.out⟩, ⟨by (with_reducible repeat (first | apply kN_ | apply kD_ | apply kA_)); exact BK145.out⟩, ⟨by repeat (first | (with_reducible first | exact HB.out | apply bA_ | apply bN_ | apply bD_ | refine bS_ ?_ GE144.out | refine bS_ ?_ GE145.out) | exact HB.out)⟩⟩
    case round =>
     clear H'; (try clear c1); (try clear p1); (try clear q1); (try clear hx1); (try clear qi1); (try clear p2); (try clear c3); (try clear c4); (try clear c6); (try clear c6b0); (try clear c6b1); (try clear p6); (try clear c8); (try clear c10); (try clear c11); (try clear c12); (try clear c12b0); (try clear c12b1); (try clear c13); (try clear c13b0); (try clear c13b1); (try clear c14); (try clear p14); (try clear q14); (try clear hx14); (try clear qi14); (try clear hx146_0); (try clear hx146_1); (try clear hx146_2); (try clear hx147_0); (try clear hx147_1); (try clear hx147_2); (try clear hx149_0); (try clear hx149_1); (try clear hx149_2); (try clear hx150_0); (try clear hx150_1); (try clear hx150_2); (try clear hx152_0); (try clear hx152_1); (try clear hx152_2); (try clear hx153_0); (try clear hx153_1); (try clear hx153_2); (try clear p1); (try clear p146); (try clear p147); (try clear p149); (try clear p150); (try clear p152); (try clear p153); (try clear p2); (try clear p6); (try clear q1); (try clear q146); (try clear q147); (try clear q149); (try clear q150); (try clear q152); (try clear q153); obtain ⟨x5_2, x145000_2, x146000_2, rfl, HA, HK2, BK144, BK145, HB⟩ := hrel
     cases gk with
     | zero => exact absurd HA.out (by simp [spec_l01Lay.l0])
     | succ k2 =>
      have H := HA.out; clear HA; simp only [spec_l01Lay.l0] at H
      by_cases c15 : 0 < (l0.length : Int)
      ·
       rw [if_pos c15] at H; have c15b0 : decide (0 < (l0.length : Int)) = true := decide_eq_true c15; have c15b1 : decide (0 < l0.length) = true := decide_eq_true (by omega); clear c15
       by_cases c16 : x5_2 < (((rd_T29 l0 0).f2).length : Int)
       ·
        rw [if_pos c16] at H; have c16b0 : decide (x5_2 < (((rd_T29 l0 0).f2).length : Int)) = true := decide_eq_true c16; clear c16
        by_cases c17 : 0 ≤ x5_2
        ·
         rw [if_pos c17] at H; have c17b0 : decide (0 ≤ x5_2) = true := decide_eq_true c17; clear c17; have HC18 := am_ H; clear H; have p154 : 0 ≤ (0 : Int) := (by omega)
         have q154 : 0 < (l0.length : Int) := od_ (by first | (with_reducible assumption) | assumption); obtain ⟨ad154, A154_2, c154_2, e154, hx154_0, hx154_1, hx154_2, hl154_2, hi154_2⟩ := at_T29 HR0.out 0 p154 q154
         cases e154
         have qi154 : (0 < l0.length) = True := eq_true (by omega); (try rw [show ((0 : Int)).toNat = 0 from rfl] at hx154_0); (try rw [show 0 * 3 = 0 from rfl] at hx154_0); (try rw [Addr.add_zero'] at hx154_0); (try rw [show ((0 : Int)).toNat = 0 from rfl] at hx154_1); (try rw [show 0 * 3 = 0 from rfl] at hx154_1); (try rw [Addr.add_zero'] at hx154_1); (try rw [show ((0 : Int)).toNat = 0 from rfl] at hx154_2); (try rw [show 0 * 3 = 0 from rfl] at hx154_2); (try rw [Addr.add_zero'] at hx154_2); replace hx154_0 := (HB.out.cell (bl_ w _ hx154_0)).trans hx154_0; replace hx154_1 := (HB.out.cell (bl_ w _ hx154_1)).trans hx154_1; replace hx154_2 := (HB.out.cell (bl_ w _ hx154_2)).trans hx154_2; have HR154_2 := am_ hi154_2; have HC154_2 := am_ hl154_2; clear hi154_2 hl154_2; replace p154 := eq_true p154; replace q154 := eq_true q154; have p155 : 0 ≤ (0 : Int) := (by omega)
         have q155 : 0 < (l0.length : Int) := od_ (by first | (with_reducible assumption) | assumption); obtain ⟨ad155, A155_2, c155_2, e155, hx155_0, hx155_1, hx155_2, hl155_2, hi155_2⟩ := at_T29 HR0.out 0 p155 q155; obtain rfl : ad154 = ad155 := (by injection e155)
         have qi155 : (0 < l0.length) = True := eq_true (by omega); (try rw [show ((0 : Int)).toNat = 0 from rfl] at hx155_0); (try rw [show 0 * 3 = 0 from rfl] at hx155_0); (try rw [Addr.add_zero'] at hx155_0); (try rw [show ((0 : Int)).toNat = 0 from rfl] at hx155_1); (try rw [show 0 * 3 = 0 from rfl] at hx155_1); (try rw [Addr.add_zero'] at hx155_1); (try rw [show ((0 : Int)).toNat = 0 from rfl] at hx155_2); (try rw [show 0 * 3 = 0 from rfl] at hx155_2); (try rw [Addr.add_zero'] at hx155_2); replace hx155_0 := (HB.out.cell (bl_ w _ hx155_0)).trans hx155_0; replace hx155_1 := (HB.out.cell (bl_ w _ hx155_1)).trans hx155_1; replace hx155_2 := (HB.out.cell (bl_ w _ hx155_2)).trans hx155_2; have HR155_2 := am_ hi155_2; have HC155_2 := am_ hl155_2; clear hi155_2 hl155_2; replace p155 := eq_true p155; replace q155 := eq_true q155; have ea_ := Option.some.inj (hx154_2.symm.trans hx155_2)
         injection ea_ with ea_ en_ ec_
         subst ea_; subst ec_; clear en_; have p156 : 0 ≤ (0 : Int) := (by omega)
         have q156 : 0 < (l0.length : Int) := od_ (by first | (with_reducible assumption) | assumption); obtain ⟨ad156, A156_2, c156_2, e156, hx156_0, hx156_1, hx156_2, hl156_2, hi156_2⟩ := at_T29 HR0.out 0 p156 q156; obtain rfl : ad154 = ad156 := (by injection e156)
         have qi156 : (0 < l0.length) = True := eq_true (by omega); (try rw [show ((0 : Int)).toNat = 0 from rfl] at hx156_0); (try rw [show 0 * 3 = 0 from rfl] at hx156_0); (try rw [Addr.add_zero'] at hx156_0); (try rw [show ((0 : Int)).toNat = 0 from rfl] at hx156_1); (try rw [show 0 * 3 = 0 from rfl] at hx156_1); (try rw [Addr.add_zero'] at hx156_1); (try rw [show ((0 : Int)).toNat = 0 from rfl] at hx156_2); (try rw [show 0 * 3 = 0 from rfl] at hx156_2); (try rw [Addr.add_zero'] at hx156_2); replace hx156_0 := (HB.out.cell (bl_ w _ hx156_0)).trans hx156_0; replace hx156_1 := (HB.out.cell (bl_ w _ hx156_1)).trans hx156_1; replace hx156_2 := (HB.out.cell (bl_ w _ hx156_2)).trans hx156_2; have HR156_2 := am_ hi156_2; have HC156_2 := am_ hl156_2; clear hi156_2 hl156_2; replace p156 := eq_true p156; replace q156 := eq_true q156; have ea_ := Option.some.inj (hx154_2.symm.trans hx156_2)
         injection ea_ with ea_ en_ ec_
         subst ea_; subst ec_; clear en_; have p157 : 0 ≤ (0 : Int) := (by omega)
         have q157 : 0 < (l0.length : Int) := od_ (by first | (with_reducible assumption) | assumption); obtain ⟨ad157, A157_2, c157_2, e157, hx157_0, hx157_1, hx157_2, hl157_2, hi157_2⟩ := at_T29 HR0.out 0 p157 q157; obtain rfl : ad154 = ad157 := (by injection e157)
         have qi157 : (0 < l0.length) = True := eq_true (by omega); (try rw [show ((0 : Int)).toNat = 0 from rfl] at hx157_0); (try rw [show 0 * 3 = 0 from rfl] at hx157_0); (try rw [Addr.add_zero'] at hx157_0); (try rw [show ((0 : Int)).toNat = 0 from rfl] at hx157_1); (try rw [show 0 * 3 = 0 from rfl] at hx157_1); (try rw [Addr.add_zero'] at hx157_1); (try rw [show ((0 : Int)).toNat = 0 from rfl] at hx157_2); (try rw [show 0 * 3 = 0 from rfl] at hx157_2); (try rw [Addr.add_zero'] at hx157_2); replace hx157_0 := (HB.out.cell (bl_ w _ hx157_0)).trans hx157_0; replace hx157_1 := (HB.out.cell (bl_ w _ hx157_1)).trans hx157_1; replace hx157_2 := (HB.out.cell (bl_ w _ hx157_2)).trans hx157_2; have HR157_2 := am_ hi157_2; have HC157_2 := am_ hl157_2; clear hi157_2 hl157_2; replace p157 := eq_true p157; replace q157 := eq_true q157; have ea_ := Option.some.inj (hx154_2.symm.trans hx157_2)
         injection ea_ with ea_ en_ ec_
         subst ea_; subst ec_; clear en_; have p158 : 0 ≤ (x5_2 : Int) := od_ (by first | (with_reducible assumption) | assumption); have q158 : x5_2 < (((rd_T29 l0 0).f2).length : Int) := od_ (by first | (with_reducible assumption) | assumption); obtain ⟨ad158, e158, hx158_0, hx158_1, hx158_2, hx158_3⟩ := at_T31 HR157_2.out x5_2 p158 q158
         cases e158
         replace hx158_0 := (HB.out.cell (bl_ w _ hx158_0)).trans hx158_0; replace hx158_1 := (HB.out.cell (bl_ w _ hx158_1)).trans hx158_1; replace hx158_2 := (HB.out.cell (bl_ w _ hx158_2)).trans hx158_2; replace hx158_3 := (HB.out.cell (bl_ w _ hx158_3)).trans hx158_3; replace p158 := eq_true p158; replace q158 := eq_true q158
         go_upto_region 8 with (first | ((with_reducible refine gate_dst (N := 6) rfl ?_); (try (refine gate_guard (by rfl) ?_; dsimp only)); refine box_event ?hg (N := 6) ?hd (cs := #[.int .i8 0, .int .i8 0, .int .i8 0, .int .i8 0]) (t := 31) ?hr ?_; (case hd => rfl); (case hg => rfl); (case hr => first | (go_simp; done) | (go_simp; rfl)); intro gb159 hg w19 hbox hb; have n0_ := am_ (kB_ (g := gb144) (o := .cells (arrC .i64 x145000_2) 60 (0, 0)) (by (with_reducible repeat (first | apply kN_ | apply kD_ | apply kA_)); exact BK144.out) hb); have n1_ := am_ (kB_ (g := gb145) (o := .cells (arrC .i64 x146000_2) 60 (0, 0)) (by (with_reducible repeat (first | apply kN_ | apply kD_ | apply kA_)); exact BK145.out) hb); have n2_ := am_ (bT_ (by repeat (first | (with_reducible first | exact HB.out | apply bA_ | apply bN_ | apply bD_ | refine bS_ ?_ GE144.out | refine bS_ ?_ GE145.out) | exact HB.out)) hb); have n3_ := am_ (hbox); have n4_ := am_ ((by rw [hg]; exact (bZ_ (by repeat (first | (with_reducible first | exact HB.out | apply bA_ | apply bN_ | apply bD_ | refine bS_ ?_ GE144.out | refine bS_ ?_ GE145.out) | exact HB.out))) : w.heap.size ≤ gb159)); have n5_ := n4_; have n6_ := am_ ((by rw [hg]; exact nL_ (kL_ (g := gb144) (o := .cells (arrC .i64 x145000_2) 60 (0, 0)) (by (with_reducible repeat (first | apply kN_ | apply kD_ | apply kA_)); exact BK144.out)) : gb144 ≠ gb159)); have n7_ := am_ ((by rw [hg]; exact nG_ (kL_ (g := gb144) (o := .cells (arrC .i64 x145000_2) 60 (0, 0)) (by (with_reducible repeat (first | apply kN_ | apply kD_ | apply kA_)); exact BK144.out)) : gb159 ≠ gb144)); have n8_ := am_ ((by rw [hg]; exact nL_ (kL_ (g := gb145) (o := .cells (arrC .i64 x146000_2) 60 (0, 0)) (by (with_reducible repeat (first | apply kN_ | apply kD_ | apply kA_)); exact BK145.out)) : gb145 ≠ gb159)); have n9_ := am_ ((by rw [hg]; exact nG_ (kL_ (g := gb145) (o := .cells (arrC .i64 x146000_2) 60 (0, 0)) (by (with_reducible repeat (first | apply kN_ | apply kD_ | apply kA_)); exact BK145.out)) : gb159 ≠ gb145)); clear BK144; clear BK145; clear HB; have BK144 := n0_; have BK145 := n1_; have HB := n2_; have BK159 := n3_; have GW159 := n4_; have GE159 := n5_; have NB144_159 := n6_; have NB159_144 := n7_; have NB145_159 := n8_; have NB159_145 := n9_; clear n0_ n1_ n2_ n3_ n4_ n5_ n6_ n7_ n8_ n9_; clear hb hbox hg; have hnb20 := NB159_144.out; have hnc20 := NB144_159.out; have hnb21 := NB159_145.out; have hnc21 := NB145_159.out; have hcz22_0 : w19.cell? ⟨gb159, 0, none⟩ = some (.int .i8 0) := (kC_ BK159.out 0).trans rfl; have hcz22_1 : w19.cell? ⟨gb159, 1, none⟩ = some (.int .i8 0) := (kC_ BK159.out 1).trans rfl; have hcz22_2 : w19.cell? ⟨gb159, 2, none⟩ = some (.int .i8 0) := (kC_ BK159.out 2).trans rfl; have hcz22_3 : w19.cell? ⟨gb159, 3, none⟩ = some (.int .i8 0) := (kC_ BK159.out 3).trans rfl; have hfz22_0 := kF_ BK159.out 0; have hfz22_1 := kF_ BK159.out 1; have hfz22_2 := kF_ BK159.out 2; have hfz22_3 := kF_ BK159.out 3))
         (try simp only [Act.put, z1_, z2_, z3_])
         go_cut [71] (fun v71 wc => ∃ (kq : Nat) (x71_17 : Bool), v71 = .bool x71_17 ∧ Aside0 (spec_l01Lay.j2 kq l0 x5_2 x71_17 x145000_2 x146000_2 ((rd_T31 ((rd_T29 l0 0).f2) x5_2).f0) ((rd_T31 ((rd_T29 l0 0).f2) x5_2).f1) ((rd_T31 ((rd_T29 l0 0).f2) x5_2).f2) ((rd_T31 ((rd_T29 l0 0).f2) x5_2).f3) = some (r1, r2)) ∧ Aside0 (kq ≤ k2) ∧ Aside0 (wc.heap[gb144]? = some (.cells (arrC .i64 x145000_2) 60 (0, 0))) ∧ Aside0 (wc.heap[gb145]? = some (.cells (arrC .i64 x146000_2) 60 (0, 0))) ∧ Aside0 (wc.heap[gb159]? = some (.cells #[.int .i8 ((rd_T31 ((rd_T29 l0 0).f2) x5_2).f0), .int .i8 ((rd_T31 ((rd_T29 l0 0).f2) x5_2).f1), .int .i8 ((rd_T31 ((rd_T29 l0 0).f2) x5_2).f2), .int .i8 ((rd_T31 ((rd_T29 l0 0).f2) x5_2).f3)] 31 (0, 0))) ∧ Aside0 (Below w.heap.size w wc))
         case first =>
          have H := HC18.out; clear HC18; replace H := Option.bind_eq_some_iff.mp H; obtain ⟨t160, A230, H⟩ := H; replace H : (if t160 = true then (if x5_2 > 0 then (if 0 ≤ (wrap64 (x5_2 - 1)) then (if (wrap64 (x5_2 - 1)) < (((rd_T29 l0 0).f2).length : Int) then ((spec_l01Before.f ((rd_T31 ((rd_T29 l0 0).f2) (wrap64 (x5_2 - 1))).f0) ((rd_T31 ((rd_T29 l0 0).f2) (wrap64 (x5_2 - 1))).f1) ((rd_T31 ((rd_T29 l0 0).f2) (wrap64 (x5_2 - 1))).f2) ((rd_T31 ((rd_T29 l0 0).f2) (wrap64 (x5_2 - 1))).f3) ((rd_T31 ((rd_T29 l0 0).f2) x5_2).f0) ((rd_T31 ((rd_T29 l0 0).f2) x5_2).f1) ((rd_T31 ((rd_T29 l0 0).f2) x5_2).f2) ((rd_T31 ((rd_T29 l0 0).f2) x5_2).f3)).bind fun t164 => (spec_l01Lay.j2 k2 l0 x5_2 (!t164) x145000_2 x146000_2 ((rd_T31 ((rd_T29 l0 0).f2) x5_2).f0) ((rd_T31 ((rd_T29 l0 0).f2) x5_2).f1) ((rd_T31 ((rd_T29 l0 0).f2) x5_2).f2) ((rd_T31 ((rd_T29 l0 0).f2) x5_2).f3))) else (none)) else (none)) else (spec_l01Lay.j2 k2 l0 x5_2 false x145000_2 x146000_2 ((rd_T31 ((rd_T29 l0 0).f2) x5_2).f0) ((rd_T31 ((rd_T29 l0 0).f2) x5_2).f1) ((rd_T31 ((rd_T29 l0 0).f2) x5_2).f2) ((rd_T31 ((rd_T29 l0 0).f2) x5_2).f3))) else (spec_l01Lay.j2 k2 l0 x5_2 true x145000_2 x146000_2 ((rd_T31 ((rd_T29 l0 0).f2) x5_2).f0) ((rd_T31 ((rd_T29 l0 0).f2) x5_2).f1) ((rd_T31 ((rd_T29 l0 0).f2) x5_2).f2) ((rd_T31 ((rd_T29 l0 0).f2) x5_2).f3))) = some (r1, r2) := H; have A23 := am_ A230; clear A230
          by_cases c24 : t160 = true
          ·
           subst c24; have H1 : (if x5_2 > 0 then (if 0 ≤ (wrap64 (x5_2 - 1)) then (if (wrap64 (x5_2 - 1)) < (((rd_T29 l0 0).f2).length : Int) then ((spec_l01Before.f ((rd_T31 ((rd_T29 l0 0).f2) (wrap64 (x5_2 - 1))).f0) ((rd_T31 ((rd_T29 l0 0).f2) (wrap64 (x5_2 - 1))).f1) ((rd_T31 ((rd_T29 l0 0).f2) (wrap64 (x5_2 - 1))).f2) ((rd_T31 ((rd_T29 l0 0).f2) (wrap64 (x5_2 - 1))).f3) ((rd_T31 ((rd_T29 l0 0).f2) x5_2).f0) ((rd_T31 ((rd_T29 l0 0).f2) x5_2).f1) ((rd_T31 ((rd_T29 l0 0).f2) x5_2).f2) ((rd_T31 ((rd_T29 l0 0).f2) x5_2).f3)).bind fun t164 => (spec_l01Lay.j2 k2 l0 x5_2 (!t164) x145000_2 x146000_2 ((rd_T31 ((rd_T29 l0 0).f2) x5_2).f0) ((rd_T31 ((rd_T29 l0 0).f2) x5_2).f1) ((rd_T31 ((rd_T29 l0 0).f2) x5_2).f2) ((rd_T31 ((rd_T29 l0 0).f2) x5_2).f3))) else (none)) else (none)) else (spec_l01Lay.j2 k2 l0 x5_2 false x145000_2 x146000_2 ((rd_T31 ((rd_T29 l0 0).f2) x5_2).f0) ((rd_T31 ((rd_T29 l0 0).f2) x5_2).f1) ((rd_T31 ((rd_T29 l0 0).f2) x5_2).f2) ((rd_T31 ((rd_T29 l0 0).f2) x5_2).f3))) = some (r1, r2) := by rw [if_pos rfl] at H; exact H
           clear H; have H := H1; clear H1
           by_cases c25 : x5_2 > 0
           ·
            rw [if_pos c25] at H; have c25b0 : decide (0 < x5_2) = true := decide_eq_true c25; clear c25
            (first | rw [c25b0] | (simp only [i64_w, i32_w]; rw [c25b0]) | skip)
            obtain ⟨ji26, hji26⟩ : ∃ j_ : Int, (wrap64 (x5_2 - 1)) = j_ := ⟨_, rfl⟩
            replace H : (if 0 ≤ (ji26) then (if (ji26) < (((rd_T29 l0 0).f2).length : Int) then ((spec_l01Before.f ((rd_T31 ((rd_T29 l0 0).f2) (ji26)).f0) ((rd_T31 ((rd_T29 l0 0).f2) (ji26)).f1) ((rd_T31 ((rd_T29 l0 0).f2) (ji26)).f2) ((rd_T31 ((rd_T29 l0 0).f2) (ji26)).f3) ((rd_T31 ((rd_T29 l0 0).f2) x5_2).f0) ((rd_T31 ((rd_T29 l0 0).f2) x5_2).f1) ((rd_T31 ((rd_T29 l0 0).f2) x5_2).f2) ((rd_T31 ((rd_T29 l0 0).f2) x5_2).f3)).bind fun t164 => (spec_l01Lay.j2 k2 l0 x5_2 (!t164) x145000_2 x146000_2 ((rd_T31 ((rd_T29 l0 0).f2) x5_2).f0) ((rd_T31 ((rd_T29 l0 0).f2) x5_2).f1) ((rd_T31 ((rd_T29 l0 0).f2) x5_2).f2) ((rd_T31 ((rd_T29 l0 0).f2) x5_2).f3))) else (none)) else (none)) = some (r1, r2) := by first | (rw [hji26] at H; exact H) | (simp only [hji26] at H ⊢; exact H)
            (try rw [hji26] at A23); have hji26w : (IntKind.i64.wrap (x5_2 - 1)) = ji26 := (i64_w _).trans hji26
            by_cases c27 : 0 ≤ (ji26)
            ·
             rw [if_pos c27] at H; have c27b0 : decide (0 ≤ (ji26)) = true := decide_eq_true c27; clear c27
             by_cases c28 : (ji26) < (((rd_T29 l0 0).f2).length : Int)
             ·
              rw [if_pos c28] at H; have c28b0 : decide ((ji26) < (((rd_T29 l0 0).f2).length : Int)) = true := decide_eq_true c28; clear c28; replace H := Option.bind_eq_some_iff.mp H; obtain ⟨t164, A290, H⟩ := H; replace H : (spec_l01Lay.j2 k2 l0 x5_2 (!t164) x145000_2 x146000_2 ((rd_T31 ((rd_T29 l0 0).f2) x5_2).f0) ((rd_T31 ((rd_T29 l0 0).f2) x5_2).f1) ((rd_T31 ((rd_T29 l0 0).f2) x5_2).f2) ((rd_T31 ((rd_T29 l0 0).f2) x5_2).f3)) = some (r1, r2) := H; have A29 := am_ A290; clear A290; have H' := am_ H; clear H
              try go_wp2
              have n0_ : Aside0 (((((w19.setCell ⟨gb159, 0, none⟩ (.int .i8 ((rd_T31 ((rd_T29 l0 0).f2) x5_2).f0))).setCell ⟨gb159, 1, none⟩ (.int .i8 ((rd_T31 ((rd_T29 l0 0).f2) x5_2).f1))).setCell ⟨gb159, 2, none⟩ (.int .i8 ((rd_T31 ((rd_T29 l0 0).f2) x5_2).f2))).setCell ⟨gb159, 3, none⟩ (.int .i8 ((rd_T31 ((rd_T29 l0 0).f2) x5_2).f3))).heap[gb144]? = some (.cells (arrC .i64 x145000_2) 60 (0, 0))) := ⟨by (with_reducible repeat (first | apply kN_ | apply kD_ | apply kA_)); refine kX_ ?_ NB144_159.out _; (with_reducible repeat (first | apply kN_ | apply kD_ | apply kA_)); refine kX_ ?_ NB144_159.out _; (with_reducible repeat (first | apply kN_ | apply kD_ | apply kA_)); refine kX_ ?_ NB144_159.out _; (with_reducible repeat (first | apply kN_ | apply kD_ | apply kA_)); refine kX_ ?_ NB144_159.out _; (with_reducible repeat (first | apply kN_ | apply kD_ | apply kA_)); exact BK144.out⟩
              have n1_ : Aside0 (((((w19.setCell ⟨gb159, 0, none⟩ (.int .i8 ((rd_T31 ((rd_T29 l0 0).f2) x5_2).f0))).setCell ⟨gb159, 1, none⟩ (.int .i8 ((rd_T31 ((rd_T29 l0 0).f2) x5_2).f1))).setCell ⟨gb159, 2, none⟩ (.int .i8 ((rd_T31 ((rd_T29 l0 0).f2) x5_2).f2))).setCell ⟨gb159, 3, none⟩ (.int .i8 ((rd_T31 ((rd_T29 l0 0).f2) x5_2).f3))).heap[gb145]? = some (.cells (arrC .i64 x146000_2) 60 (0, 0))) := ⟨by (with_reducible repeat (first | apply kN_ | apply kD_ | apply kA_)); refine kX_ ?_ NB145_159.out _; (with_reducible repeat (first | apply kN_ | apply kD_ | apply kA_)); refine kX_ ?_ NB145_159.out _; (with_reducible repeat (first | apply kN_ | apply kD_ | apply kA_)); refine kX_ ?_ NB145_159.out _; (with_reducible repeat (first | apply kN_ | apply kD_ | apply kA_)); refine kX_ ?_ NB145_159.out _; (with_reducible repeat (first | apply kN_ | apply kD_ | apply kA_)); exact BK145.out⟩
              have n2_ : Aside0 (((((w19.setCell ⟨gb159, 0, none⟩ (.int .i8 ((rd_T31 ((rd_T29 l0 0).f2) x5_2).f0))).setCell ⟨gb159, 1, none⟩ (.int .i8 ((rd_T31 ((rd_T29 l0 0).f2) x5_2).f1))).setCell ⟨gb159, 2, none⟩ (.int .i8 ((rd_T31 ((rd_T29 l0 0).f2) x5_2).f2))).setCell ⟨gb159, 3, none⟩ (.int .i8 ((rd_T31 ((rd_T29 l0 0).f2) x5_2).f3))).heap[gb159]? = some (.cells #[.int .i8 ((rd_T31 ((rd_T29 l0 0).f2) x5_2).f0), .int .i8 ((rd_T31 ((rd_T29 l0 0).f2) x5_2).f1), .int .i8 ((rd_T31 ((rd_T29 l0 0).f2) x5_2).f2), .int .i8 ((rd_T31 ((rd_T29 l0 0).f2) x5_2).f3)] 31 (0, 0))) := ⟨by (with_reducible repeat (first | apply kN_ | apply kD_ | apply kA_)); refine blk_put (cs := #[.int .i8 ((rd_T31 ((rd_T29 l0 0).f2) x5_2).f0), .int .i8 ((rd_T31 ((rd_T29 l0 0).f2) x5_2).f1), .int .i8 ((rd_T31 ((rd_T29 l0 0).f2) x5_2).f2), .int .i8 0]) ?_ 3 _ rfl; (with_reducible repeat (first | apply kN_ | apply kD_ | apply kA_)); refine blk_put (cs := #[.int .i8 ((rd_T31 ((rd_T29 l0 0).f2) x5_2).f0), .int .i8 ((rd_T31 ((rd_T29 l0 0).f2) x5_2).f1), .int .i8 0, .int .i8 0]) ?_ 2 _ rfl; (with_reducible repeat (first | apply kN_ | apply kD_ | apply kA_)); refine blk_put (cs := #[.int .i8 ((rd_T31 ((rd_T29 l0 0).f2) x5_2).f0), .int .i8 0, .int .i8 0, .int .i8 0]) ?_ 1 _ rfl; (with_reducible repeat (first | apply kN_ | apply kD_ | apply kA_)); refine blk_put (cs := #[.int .i8 0, .int .i8 0, .int .i8 0, .int .i8 0]) ?_ 0 _ rfl; (with_reducible repeat (first | apply kN_ | apply kD_ | apply kA_)); exact BK159.out⟩
              have n3_ : Aside0 (Below w.heap.size w ((((w19.setCell ⟨gb159, 0, none⟩ (.int .i8 ((rd_T31 ((rd_T29 l0 0).f2) x5_2).f0))).setCell ⟨gb159, 1, none⟩ (.int .i8 ((rd_T31 ((rd_T29 l0 0).f2) x5_2).f1))).setCell ⟨gb159, 2, none⟩ (.int .i8 ((rd_T31 ((rd_T29 l0 0).f2) x5_2).f2))).setCell ⟨gb159, 3, none⟩ (.int .i8 ((rd_T31 ((rd_T29 l0 0).f2) x5_2).f3)))) := ⟨by repeat (first | (with_reducible first | exact HB.out | apply bA_ | apply bN_ | apply bD_ | refine bS_ ?_ GE144.out | refine bS_ ?_ GE145.out | refine bS_ ?_ GE159.out) | exact HB.out)⟩
              (try clear BK144); (try clear BK145); (try clear BK159); (try clear HB); generalize ((((w19.setCell ⟨gb159, 0, none⟩ (.int .i8 ((rd_T31 ((rd_T29 l0 0).f2) x5_2).f0))).setCell ⟨gb159, 1, none⟩ (.int .i8 ((rd_T31 ((rd_T29 l0 0).f2) x5_2).f1))).setCell ⟨gb159, 2, none⟩ (.int .i8 ((rd_T31 ((rd_T29 l0 0).f2) x5_2).f2))).setCell ⟨gb159, 3, none⟩ (.int .i8 ((rd_T31 ((rd_T29 l0 0).f2) x5_2).f3))) = w30 at n0_ n1_ n2_ n3_ ⊢; have BK144 := n0_; have BK145 := n1_; have BK159 := n2_; have HB := n3_; clear n0_ n1_ n2_ n3_; have n0_ := am_ (kD_ BK144.out); have n1_ := am_ (kD_ BK145.out); have n2_ := am_ (kD_ BK159.out); have n3_ := am_ (bD_ HB.out); clear BK144; clear BK145; clear BK159; clear HB; have BK144 := n0_; have BK145 := n1_; have BK159 := n2_; have HB := n3_; clear n0_ n1_ n2_ n3_; have p161 : 0 ≤ (0 : Int) := (by omega)
              have q161 : 0 < (l0.length : Int) := od_ (by first | (with_reducible assumption) | assumption); obtain ⟨ad161, A161_2, c161_2, e161, hx161_0, hx161_1, hx161_2, hl161_2, hi161_2⟩ := at_T29 HR0.out 0 p161 q161; have hw161_2 := hx161_2; (try rw [show ((0 : Int)).toNat = 0 from rfl] at hw161_2); (try rw [show 0 * 3 = 0 from rfl] at hw161_2); (try rw [Addr.add_zero'] at hw161_2); have hw161_1 := hx161_1; (try rw [show ((0 : Int)).toNat = 0 from rfl] at hw161_1); (try rw [show 0 * 3 = 0 from rfl] at hw161_1); (try rw [Addr.add_zero'] at hw161_1); have hw161_0 := hx161_0; (try rw [show ((0 : Int)).toNat = 0 from rfl] at hw161_0); (try rw [show 0 * 3 = 0 from rfl] at hw161_0); (try rw [Addr.add_zero'] at hw161_0); obtain rfl : ad154 = ad161 := (by injection e161)
              have qi161 : (0 < l0.length) = True := eq_true (by omega); (try rw [show ((0 : Int)).toNat = 0 from rfl] at hx161_0); (try rw [show 0 * 3 = 0 from rfl] at hx161_0); (try rw [Addr.add_zero'] at hx161_0); (try rw [show ((0 : Int)).toNat = 0 from rfl] at hx161_1); (try rw [show 0 * 3 = 0 from rfl] at hx161_1); (try rw [Addr.add_zero'] at hx161_1); (try rw [show ((0 : Int)).toNat = 0 from rfl] at hx161_2); (try rw [show 0 * 3 = 0 from rfl] at hx161_2); (try rw [Addr.add_zero'] at hx161_2); replace hx161_0 := (HB.out.cell (bl_ w _ hx161_0)).trans hx161_0; replace hx161_1 := (HB.out.cell (bl_ w _ hx161_1)).trans hx161_1; replace hx161_2 := (HB.out.cell (bl_ w _ hx161_2)).trans hx161_2; have HR161_2 := am_ hi161_2; have HC161_2 := am_ hl161_2; clear hi161_2 hl161_2; replace p161 := eq_true p161; replace q161 := eq_true q161; have p162 : 0 ≤ (0 : Int) := (by omega)
              have q162 : 0 < (l0.length : Int) := od_ (by first | (with_reducible assumption) | assumption); obtain ⟨ad162, A162_2, c162_2, e162, hx162_0, hx162_1, hx162_2, hl162_2, hi162_2⟩ := at_T29 HR0.out 0 p162 q162; have hw162_2 := hx162_2; (try rw [show ((0 : Int)).toNat = 0 from rfl] at hw162_2); (try rw [show 0 * 3 = 0 from rfl] at hw162_2); (try rw [Addr.add_zero'] at hw162_2); have hw162_1 := hx162_1; (try rw [show ((0 : Int)).toNat = 0 from rfl] at hw162_1); (try rw [show 0 * 3 = 0 from rfl] at hw162_1); (try rw [Addr.add_zero'] at hw162_1); have hw162_0 := hx162_0; (try rw [show ((0 : Int)).toNat = 0 from rfl] at hw162_0); (try rw [show 0 * 3 = 0 from rfl] at hw162_0); (try rw [Addr.add_zero'] at hw162_0); obtain rfl : ad154 = ad162 := (by injection e162)
              have qi162 : (0 < l0.length) = True := eq_true (by omega); (try rw [show ((0 : Int)).toNat = 0 from rfl] at hx162_0); (try rw [show 0 * 3 = 0 from rfl] at hx162_0); (try rw [Addr.add_zero'] at hx162_0); (try rw [show ((0 : Int)).toNat = 0 from rfl] at hx162_1); (try rw [show 0 * 3 = 0 from rfl] at hx162_1); (try rw [Addr.add_zero'] at hx162_1); (try rw [show ((0 : Int)).toNat = 0 from rfl] at hx162_2); (try rw [show 0 * 3 = 0 from rfl] at hx162_2); (try rw [Addr.add_zero'] at hx162_2); replace hx162_0 := (HB.out.cell (bl_ w _ hx162_0)).trans hx162_0; replace hx162_1 := (HB.out.cell (bl_ w _ hx162_1)).trans hx162_1; replace hx162_2 := (HB.out.cell (bl_ w _ hx162_2)).trans hx162_2; have HR162_2 := am_ hi162_2; have HC162_2 := am_ hl162_2; clear hi162_2 hl162_2; replace p162 := eq_true p162; replace q162 := eq_true q162; have ea_ := Option.some.inj (hx161_2.symm.trans hx162_2)
              injection ea_ with ea_ en_ ec_
              subst ea_; subst ec_; clear en_; have p163 : 0 ≤ ((ji26) : Int) := od_ (by first | (with_reducible assumption) | assumption); have q163 : (ji26) < (((rd_T29 l0 0).f2).length : Int) := od_ (by first | (with_reducible assumption) | assumption); obtain ⟨ad163, e163, hx163_0, hx163_1, hx163_2, hx163_3⟩ := at_T31 HR162_2.out (ji26) p163 q163; have hw163_3 := hx163_3; have hw163_2 := hx163_2; have hw163_1 := hx163_1; have hw163_0 := hx163_0
              cases e163
              replace hx163_0 := (HB.out.cell (bl_ w _ hx163_0)).trans hx163_0; replace hx163_1 := (HB.out.cell (bl_ w _ hx163_1)).trans hx163_1; replace hx163_2 := (HB.out.cell (bl_ w _ hx163_2)).trans hx163_2; replace hx163_3 := (HB.out.cell (bl_ w _ hx163_3)).trans hx163_3; replace p163 := eq_true p163; replace q163 := eq_true q163; refine start_ (n := 21) (S := fun w' => w'.cell? ⟨gb159, 0, none⟩ = some (.int .i8 ((rd_T31 ((rd_T29 l0 0).f2) x5_2).f0)) ∧ w'.cell? ⟨gb159, 1, none⟩ = some (.int .i8 ((rd_T31 ((rd_T29 l0 0).f2) x5_2).f1)) ∧ w'.cell? ⟨gb159, 2, none⟩ = some (.int .i8 ((rd_T31 ((rd_T29 l0 0).f2) x5_2).f2)) ∧ w'.cell? ⟨gb159, 3, none⟩ = some (.int .i8 ((rd_T31 ((rd_T29 l0 0).f2) x5_2).f3)) ∧ w'.cell? ad154 = some (.int .i8 ((rd_T29 l0 0).f0)) ∧ w'.cell? ⟨ad154.block, ad154.off + 1, none⟩ = some (.int .i8 ((rd_T29 l0 0).f1)) ∧ w'.cell? ⟨ad154.block, ad154.off + 2, none⟩ = some (.slice (some ad163) ((rd_T29 l0 0).f2).length c161_2) ∧ w'.cell? ad154 = some (.int .i8 ((rd_T29 l0 0).f0)) ∧ w'.cell? ⟨ad154.block, ad154.off + 1, none⟩ = some (.int .i8 ((rd_T29 l0 0).f1)) ∧ w'.cell? ⟨ad154.block, ad154.off + 2, none⟩ = some (.slice (some ad163) ((rd_T29 l0 0).f2).length c161_2) ∧ w'.cell? (ad163.add (((ji26)).toNat * 4)) = some (.int .i8 ((rd_T31 ((rd_T29 l0 0).f2) (ji26)).f0)) ∧ w'.cell? ⟨(ad163.add (((ji26)).toNat * 4)).block, (ad163.add (((ji26)).toNat * 4)).off + 1, none⟩ = some (.int .i8 ((rd_T31 ((rd_T29 l0 0).f2) (ji26)).f1)) ∧ w'.cell? ⟨(ad163.add (((ji26)).toNat * 4)).block, (ad163.add (((ji26)).toNat * 4)).off + 2, none⟩ = some (.int .i8 ((rd_T31 ((rd_T29 l0 0).f2) (ji26)).f2)) ∧ w'.cell? ⟨(ad163.add (((ji26)).toNat * 4)).block, (ad163.add (((ji26)).toNat * 4)).off + 3, none⟩ = some (.int .i8 ((rd_T31 ((rd_T29 l0 0).f2) (ji26)).f3))) (ds := []) (mB_ 21 0) (by kernel_rfl) rfl rfl ⟨(kC_ BK159.out 0).trans rfl, (kC_ BK159.out 1).trans rfl, (kC_ BK159.out 2).trans rfl, (kC_ BK159.out 3).trans rfl, ((HB.out.cell (bl_ w _ hw161_0)).trans hw161_0), ((HB.out.cell (bl_ w _ hw161_1)).trans hw161_1), ((HB.out.cell (bl_ w _ hw161_2)).trans hw161_2), ((HB.out.cell (bl_ w _ hw162_0)).trans hw162_0), ((HB.out.cell (bl_ w _ hw162_1)).trans hw162_1), ((HB.out.cell (bl_ w _ hw162_2)).trans hw162_2), ((HB.out.cell (bl_ w _ hw163_0)).trans hw163_0), ((HB.out.cell (bl_ w _ hw163_1)).trans hw163_1), ((HB.out.cell (bl_ w _ hw163_2)).trans hw163_2), ((HB.out.cell (bl_ w _ hw163_3)).trans hw163_3)⟩ (fun hHeld => ?_); refine with_tabW spec_l01Lay.tab8 spec_l01Lay.bits8 (fun HT_ HW_ => ?_); generalize w30.drew = w31 at BK144 BK145 BK159 HB HR161_2 HR162_2 hx161_0 hx161_1 hx161_2 hx162_0 hx162_1 hx162_2 hx163_0 hx163_1 hx163_2 hx163_3 hHeld ⊢; refine pure_ (i := 0) (N := some 51) (v := ?_) (a' := ?_) (mB_ 21 1) rfl rfl (any_of HT_.out (by kernel_rfl)) (fun _ _ _ h => h) (Or.inl ⟨by rfl, ?_⟩) ?_ ?_; rotate_left
              ·
               intro w'
               go_simp
               with_reducible rfl
              rotate_left
              ·
               simp only [Act.put, z1_, z2_, z3_, i64_w, i32_w]
               rfl
              refine take_ (i := 1) (N := some 52) (v := ?_) (a' := ?_) (mB_ 21 3) rfl rfl (take_ofW HT_.out HW_.out (by kernel_rfl)) (fun _ _ _ h => h) (Or.inl ⟨by rfl, ?_⟩) hHeld ?_ ?_; rotate_left
              ·
               rintro w' ⟨s0, s1, s2, s3, s4, s5, s6, s7, s8, s9, s10, s11, s12, s13⟩
               go_simp
               with_reducible rfl
              rotate_left
              ·
               simp only [Act.put, z1_, z2_, z3_, i64_w, i32_w]
               rfl
              refine one_ (i := 2) (N := some 53) (mB_ 21 7) rfl rfl (one_of HT_.out (by kernel_rfl)) (by decide) (fun K hK => ?_); refine goes_ Try.func50 (by kernel_rfl) rfl #[.pointer (some ad154), .agg #[.int .i8 ((rd_T31 ((rd_T29 l0 0).f2) x5_2).f0), .int .i8 ((rd_T31 ((rd_T29 l0 0).f2) x5_2).f1), .int .i8 ((rd_T31 ((rd_T29 l0 0).f2) x5_2).f2), .int .i8 ((rd_T31 ((rd_T29 l0 0).f2) x5_2).f3)]] (by rfl) rfl rfl (by (try simp only [List.map_toArray, List.map_cons, List.map_nil]); first | done | rfl | (simp only [List.length_drop, List.length_take]; rfl)) ?_
              with_reducible refine (spec_l01Lies.calls _ c0 l0 ((rd_T31 ((rd_T29 l0 0).f2) x5_2).f0) ((rd_T31 ((rd_T29 l0 0).f2) x5_2).f1) ((rd_T31 ((rd_T29 l0 0).f2) x5_2).f2) ((rd_T31 ((rd_T29 l0 0).f2) x5_2).f3) true _ ?side1 ?side2 A23.out).mono ?_
              (case side1 => repeat (first | exact (cB_ HR0.out HB.out) | (with_reducible refine Kd.C_alloc ?_ _) | (with_reducible refine Kd.C_drewN ?_ _) | (with_reducible refine Kd.C_drew ?_)))
              (case side2 => exact HC0.out)
              rintro e w32 ⟨rfl, hb⟩; refine ⟨_, rfl, ?_⟩; have n0_ := am_ (kB_ (g := gb144) (o := .cells (arrC .i64 x145000_2) 60 (0, 0)) (by (with_reducible repeat (first | apply kN_ | apply kD_ | apply kA_)); exact BK144.out) hb); have n1_ := am_ (kB_ (g := gb145) (o := .cells (arrC .i64 x146000_2) 60 (0, 0)) (by (with_reducible repeat (first | apply kN_ | apply kD_ | apply kA_)); exact BK145.out) hb); have n2_ := am_ (kB_ (g := gb159) (o := .cells #[.int .i8 ((rd_T31 ((rd_T29 l0 0).f2) x5_2).f0), .int .i8 ((rd_T31 ((rd_T29 l0 0).f2) x5_2).f1), .int .i8 ((rd_T31 ((rd_T29 l0 0).f2) x5_2).f2), .int .i8 ((rd_T31 ((rd_T29 l0 0).f2) x5_2).f3)] 31 (0, 0)) (by (with_reducible repeat (first | apply kN_ | apply kD_ | apply kA_)); exact BK159.out) hb); have n3_ := am_ (bT_ (by repeat (first | (with_reducible first | exact HB.out | apply bA_ | apply bN_ | apply bD_ | refine bS_ ?_ GE144.out | refine bS_ ?_ GE145.out | refine bS_ ?_ GE159.out) | exact HB.out)) hb); clear BK144; clear BK145; clear BK159; clear HB; have BK144 := n0_; have BK145 := n1_; have BK159 := n2_; have HB := n3_; clear n0_ n1_ n2_ n3_; (try clear hb); (try clear hb2); (try clear hk); (try clear hi); refine hK.out _ _ ⟨(kC_ BK159.out 0).trans rfl, (kC_ BK159.out 1).trans rfl, (kC_ BK159.out 2).trans rfl, (kC_ BK159.out 3).trans rfl, ((HB.out.cell (bl_ w _ hw161_0)).trans hw161_0), ((HB.out.cell (bl_ w _ hw161_1)).trans hw161_1), ((HB.out.cell (bl_ w _ hw161_2)).trans hw161_2), ((HB.out.cell (bl_ w _ hw162_0)).trans hw162_0), ((HB.out.cell (bl_ w _ hw162_1)).trans hw162_1), ((HB.out.cell (bl_ w _ hw162_2)).trans hw162_2), ((HB.out.cell (bl_ w _ hw163_0)).trans hw163_0), ((HB.out.cell (bl_ w _ hw163_1)).trans hw163_1), ((HB.out.cell (bl_ w _ hw163_2)).trans hw163_2), ((HB.out.cell (bl_ w _ hw163_3)).trans hw163_3)⟩ (fun hHeld => ?_); clear hK K; refine norm_ (a' := ?_) ?_ ?_; rotate_left
              ·
               show Act.put _ (some 53) _ = _
               simp only [Act.put, z1_, z2_, z3_, i64_w, i32_w]
               rfl
              refine pure_ (i := 3) (N := some 54) (v := ?_) (a' := ?_) (mB_ 21 15) rfl rfl (any_of HT_.out (by kernel_rfl)) (fun _ _ _ h => h) (Or.inl ⟨by rfl, ?_⟩) ?_ ?_; rotate_left
              ·
               intro w'
               go_simp
               with_reducible rfl
              rotate_left
              ·
               simp only [Act.put, z1_, z2_, z3_, i64_w, i32_w]
               rfl
              refine pure_ (i := 4) (N := some 55) (v := ?_) (a' := ?_) (mB_ 21 31) rfl rfl (any_of HT_.out (by kernel_rfl)) (fun _ _ _ h => h) (Or.inl ⟨by rfl, ?_⟩) ?_ ?_; rotate_left
              ·
               intro w'
               go_simp
               with_reducible rfl
              rotate_left
              ·
               simp only [Act.put, z1_, z2_, z3_, i64_w, i32_w]
               rfl
              refine pure_ (i := 5) (N := some 56) (v := ?_) (a' := ?_) (mB_ 21 63) rfl rfl (any_of HT_.out (by kernel_rfl)) (fun _ _ _ h => h) (Or.inl ⟨by rfl, ?_⟩) ?_ ?_; rotate_left
              ·
               intro w'
               go_simp
               with_reducible rfl
              rotate_left
              ·
               simp only [Act.put, z1_, z2_, z3_, i64_w, i32_w]
               rfl
              refine pure_ (i := 6) (N := some 57) (v := ?_) (a' := ?_) (mB_ 21 127) rfl rfl (any_of HT_.out (by kernel_rfl)) (fun _ _ _ h => h) (Or.inl ⟨by rfl, ?_⟩) ?_ ?_; rotate_left
              ·
               intro w'
               go_simp
               with_reducible rfl
              rotate_left
              ·
               simp only [Act.put, z1_, z2_, z3_, i64_w, i32_w]
               rfl
              refine pure_ (i := 7) (N := some 58) (v := ?_) (a' := ?_) (mB_ 21 255) rfl rfl (any_of HT_.out (by kernel_rfl)) (fun _ _ _ h => h) (Or.inl ⟨by rfl, ?_⟩) ?_ ?_; rotate_left
              ·
               intro w'
               go_simp
               with_reducible rfl
              rotate_left
              ·
               simp only [Act.put, z1_, z2_, z3_, i64_w, i32_w]
               rfl
              refine pure_ (i := 8) (N := some 59) (v := ?_) (a' := ?_) (mB_ 21 511) rfl rfl (any_of HT_.out (by kernel_rfl)) (fun _ _ _ h => h) (Or.inl ⟨by rfl, ?_⟩) ?_ ?_; rotate_left
              ·
               intro w'
               go_simp
               with_reducible rfl
              rotate_left
              ·
               simp only [Act.put, z1_, z2_, z3_, i64_w, i32_w]
               rfl
              refine pure_ (i := 9) (N := some 60) (v := ?_) (a' := ?_) (mB_ 21 1023) rfl rfl (any_of HT_.out (by kernel_rfl)) (fun _ _ _ h => h) (Or.inl ⟨by rfl, ?_⟩) ?_ ?_; rotate_left
              ·
               intro w'
               go_simp
               with_reducible rfl
              rotate_left
              ·
               simp only [Act.put, z1_, z2_, z3_, i64_w, i32_w]
               rfl
              refine pure_ (i := 10) (N := some 61) (v := ?_) (a' := ?_) (mB_ 21 2047) rfl rfl (any_of HT_.out (by kernel_rfl)) (fun _ _ _ h => h) (Or.inl ⟨by rfl, ?_⟩) ?_ ?_; rotate_left
              ·
               intro w'
               go_simp
               with_reducible rfl
              rotate_left
              ·
               simp only [Act.put, z1_, z2_, z3_, i64_w, i32_w]
               rfl
              refine pure_ (i := 12) (N := some 63) (v := ?_) (a' := ?_) (mB_ 21 6143) rfl rfl (any_of HT_.out (by kernel_rfl)) (fun _ _ _ h => h) (Or.inl ⟨by rfl, ?_⟩) ?_ ?_; rotate_left
              ·
               intro w'
               go_simp
               with_reducible rfl
              rotate_left
              ·
               simp only [Act.put, z1_, z2_, z3_, i64_w, i32_w]
               rfl
              refine pure_ (i := 13) (N := some 64) (v := ?_) (a' := ?_) (mB_ 21 14335) rfl rfl (any_of HT_.out (by kernel_rfl)) (fun _ _ _ h => h) (Or.inl ⟨by rfl, ?_⟩) ?_ ?_; rotate_left
              ·
               intro w'
               go_simp
               with_reducible rfl
              rotate_left
              ·
               simp only [Act.put, z1_, z2_, z3_, i64_w, i32_w]
               rfl
              refine take_ (i := 11) (N := some 62) (v := ?_) (a' := ?_) (mB_ 21 16383) rfl rfl (take_ofW HT_.out HW_.out (by kernel_rfl)) (fun _ _ _ h => h) (Or.inl ⟨by rfl, ?_⟩) hHeld ?_ ?_; rotate_left
              ·
               rintro w' ⟨s0, s1, s2, s3, s4, s5, s6, s7, s8, s9, s10, s11, s12, s13⟩
               go_simp
               with_reducible rfl
              rotate_left
              ·
               simp only [Act.put, z1_, z2_, z3_, i64_w, i32_w]
               rfl
              refine pure_ (i := 14) (N := some 65) (v := ?_) (a' := ?_) (mB_ 21 32767) rfl rfl (any_of HT_.out (by kernel_rfl)) (fun _ _ _ h => h) (Or.inl ⟨by rfl, ?_⟩) ?_ ?_; rotate_left
              ·
               intro w'
               go_simp
               with_reducible rfl
              rotate_left
              ·
               simp only [Act.put, z1_, z2_, z3_, i64_w, i32_w]
               rfl
              refine take_ (i := 15) (N := some 66) (v := ?_) (a' := ?_) (mB_ 21 65535) rfl rfl (take_ofW HT_.out HW_.out (by kernel_rfl)) (fun _ _ _ h => h) (Or.inl ⟨by rfl, ?_⟩) hHeld ?_ ?_; rotate_left
              ·
               rintro w' ⟨s0, s1, s2, s3, s4, s5, s6, s7, s8, s9, s10, s11, s12, s13⟩
               go_simp
               with_reducible rfl
              rotate_left
              ·
               simp only [Act.put, z1_, z2_, z3_, i64_w, i32_w]
               rfl
              refine take_ (i := 16) (N := some 67) (v := ?_) (a' := ?_) (mB_ 21 131071) rfl rfl (take_ofW HT_.out HW_.out (by kernel_rfl)) (fun _ _ _ h => h) (Or.inl ⟨by rfl, ?_⟩) hHeld ?_ ?_; rotate_left
              ·
               rintro w' ⟨s0, s1, s2, s3, s4, s5, s6, s7, s8, s9, s10, s11, s12, s13⟩
               go_simp
               with_reducible rfl
              rotate_left
              ·
               simp only [Act.put, z1_, z2_, z3_, i64_w, i32_w]
               rfl
              refine one_ (i := 17) (N := some 68) (mB_ 21 262143) rfl rfl (one_of HT_.out (by kernel_rfl)) (by decide) (fun K hK => ?_); refine goes_ Try.func51 (by kernel_rfl) rfl #[.agg #[.int .i8 ((rd_T31 ((rd_T29 l0 0).f2) (ji26)).f0), .int .i8 ((rd_T31 ((rd_T29 l0 0).f2) (ji26)).f1), .int .i8 ((rd_T31 ((rd_T29 l0 0).f2) (ji26)).f2), .int .i8 ((rd_T31 ((rd_T29 l0 0).f2) (ji26)).f3)], .agg #[.int .i8 ((rd_T31 ((rd_T29 l0 0).f2) x5_2).f0), .int .i8 ((rd_T31 ((rd_T29 l0 0).f2) x5_2).f1), .int .i8 ((rd_T31 ((rd_T29 l0 0).f2) x5_2).f2), .int .i8 ((rd_T31 ((rd_T29 l0 0).f2) x5_2).f3)]] (by rfl) rfl rfl (by (try simp only [List.map_toArray, List.map_cons, List.map_nil]); first | done | (simp only [hji26]; rfl) | rfl | (simp only [List.length_drop, List.length_take]; rfl)) ?_
              with_reducible refine (spec_l01Before.calls ((rd_T31 ((rd_T29 l0 0).f2) (ji26)).f0) ((rd_T31 ((rd_T29 l0 0).f2) (ji26)).f1) ((rd_T31 ((rd_T29 l0 0).f2) (ji26)).f2) ((rd_T31 ((rd_T29 l0 0).f2) (ji26)).f3) ((rd_T31 ((rd_T29 l0 0).f2) x5_2).f0) ((rd_T31 ((rd_T29 l0 0).f2) x5_2).f1) ((rd_T31 ((rd_T29 l0 0).f2) x5_2).f2) ((rd_T31 ((rd_T29 l0 0).f2) x5_2).f3) t164 _ A29.out).mono ?_
              rintro e w33 ⟨rfl, hb⟩; refine ⟨_, rfl, ?_⟩; have n0_ := am_ (kB_ (g := gb144) (o := .cells (arrC .i64 x145000_2) 60 (0, 0)) (by (with_reducible repeat (first | apply kN_ | apply kD_ | apply kA_)); exact BK144.out) hb); have n1_ := am_ (kB_ (g := gb145) (o := .cells (arrC .i64 x146000_2) 60 (0, 0)) (by (with_reducible repeat (first | apply kN_ | apply kD_ | apply kA_)); exact BK145.out) hb); have n2_ := am_ (kB_ (g := gb159) (o := .cells #[.int .i8 ((rd_T31 ((rd_T29 l0 0).f2) x5_2).f0), .int .i8 ((rd_T31 ((rd_T29 l0 0).f2) x5_2).f1), .int .i8 ((rd_T31 ((rd_T29 l0 0).f2) x5_2).f2), .int .i8 ((rd_T31 ((rd_T29 l0 0).f2) x5_2).f3)] 31 (0, 0)) (by (with_reducible repeat (first | apply kN_ | apply kD_ | apply kA_)); exact BK159.out) hb); have n3_ := am_ (bT_ (by repeat (first | (with_reducible first | exact HB.out | apply bA_ | apply bN_ | apply bD_ | refine bS_ ?_ GE144.out | refine bS_ ?_ GE145.out | refine bS_ ?_ GE159.out) | exact HB.out)) hb); clear BK144; clear BK145; clear BK159; clear HB; have BK144 := n0_; have BK145 := n1_; have BK159 := n2_; have HB := n3_; clear n0_ n1_ n2_ n3_; (try clear hb); (try clear hb2); (try clear hk); (try clear hi); refine hK.out _ _ ⟨(kC_ BK159.out 0).trans rfl, (kC_ BK159.out 1).trans rfl, (kC_ BK159.out 2).trans rfl, (kC_ BK159.out 3).trans rfl, ((HB.out.cell (bl_ w _ hw161_0)).trans hw161_0), ((HB.out.cell (bl_ w _ hw161_1)).trans hw161_1), ((HB.out.cell (bl_ w _ hw161_2)).trans hw161_2), ((HB.out.cell (bl_ w _ hw162_0)).trans hw162_0), ((HB.out.cell (bl_ w _ hw162_1)).trans hw162_1), ((HB.out.cell (bl_ w _ hw162_2)).trans hw162_2), ((HB.out.cell (bl_ w _ hw163_0)).trans hw163_0), ((HB.out.cell (bl_ w _ hw163_1)).trans hw163_1), ((HB.out.cell (bl_ w _ hw163_2)).trans hw163_2), ((HB.out.cell (bl_ w _ hw163_3)).trans hw163_3)⟩ (fun hHeld => ?_); clear hK K; refine norm_ (a' := ?_) ?_ ?_; rotate_left
              ·
               show Act.put _ (some 68) _ = _
               simp only [Act.put, z1_, z2_, z3_, i64_w, i32_w]
               rfl
              refine pure_ (i := 18) (N := some 69) (v := ?_) (a' := ?_) (mB_ 21 524287) rfl rfl (any_of HT_.out (by kernel_rfl)) (fun _ _ _ h => h) (Or.inl ⟨by rfl, ?_⟩) ?_ ?_; rotate_left
              ·
               intro w'
               go_simp
               with_reducible rfl
              rotate_left
              ·
               simp only [Act.put, z1_, z2_, z3_, i64_w, i32_w]
               rfl
              refine pure_ (i := 19) (N := some 70) (v := ?_) (a' := ?_) (mB_ 21 1048575) rfl rfl (any_of HT_.out (by kernel_rfl)) (fun _ _ _ h => h) (Or.inl ⟨by rfl, ?_⟩) ?_ ?_; rotate_left
              ·
               intro w'
               go_simp
               with_reducible rfl
              rotate_left
              ·
               simp only [Act.put, z1_, z2_, z3_, i64_w, i32_w]
               rfl
              refine pure_ (i := 20) (N := some 71) (v := ?_) (a' := ?_) (mB_ 21 2097151) rfl rfl (any_of HT_.out (by kernel_rfl)) (fun _ _ _ h => h) (Or.inl ⟨by rfl, ?_⟩) ?_ ?_; rotate_left
              ·
               intro w'
               go_simp
               with_reducible rfl
              rotate_left
              ·
               simp only [Act.put, z1_, z2_, z3_, i64_w, i32_w]
               rfl
              refine done_ (done_of HT_.out (by kernel_rfl)) ?_
              try go_wp2
              go_meet
              case rel => exact ⟨_, (!t164), (by first | rfl | (simp; done) | (simp [*]; done)), H', ⟨by have := HJ1.out; have := HK2.out; first | omega | exact Nat.le_refl _⟩, ⟨by (with_reducible repeat (first | apply kN_ | apply kD_ | apply kA_)); exact BK144.out⟩, ⟨by (with_reducible repeat (first | apply kN_ | apply kD_ | apply kA_)); exact BK145.out⟩, ⟨by (with_reducible repeat (first | apply kN_ | apply kD_ | apply kA_)); exact BK159.out⟩, ⟨by repeat (first | (with_reducible first | exact HB.out | apply bA_ | apply bN_ | apply bD_ | refine bS_ ?_ GE144.out | refine bS_ ?_ GE145.out | refine bS_ ?_ GE159.out) | exact HB.out)⟩⟩
             ·
              rw [if_neg c28] at H; exact absurd H (by simp)
            ·
             rw [if_neg c27] at H; exact absurd H (by simp)
           ·
            rw [if_neg c25] at H; have c25b0 : decide (0 < x5_2) = false := decide_eq_false c25; clear c25
            (first | rw [c25b0] | (simp only [i64_w, i32_w]; rw [c25b0]) | skip)
            have H' := am_ H; clear H
            try go_wp2
            have n0_ : Aside0 (((((w19.setCell ⟨gb159, 0, none⟩ (.int .i8 ((rd_T31 ((rd_T29 l0 0).f2) x5_2).f0))).setCell ⟨gb159, 1, none⟩ (.int .i8 ((rd_T31 ((rd_T29 l0 0).f2) x5_2).f1))).setCell ⟨gb159, 2, none⟩ (.int .i8 ((rd_T31 ((rd_T29 l0 0).f2) x5_2).f2))).setCell ⟨gb159, 3, none⟩ (.int .i8 ((rd_T31 ((rd_T29 l0 0).f2) x5_2).f3))).heap[gb144]? = some (.cells (arrC .i64 x145000_2) 60 (0, 0))) := ⟨by (with_reducible repeat (first | apply kN_ | apply kD_ | apply kA_)); refine kX_ ?_ NB144_159.out _; (with_reducible repeat (first | apply kN_ | apply kD_ | apply kA_)); refine kX_ ?_ NB144_159.out _; (with_reducible repeat (first | apply kN_ | apply kD_ | apply kA_)); refine kX_ ?_ NB144_159.out _; (with_reducible repeat (first | apply kN_ | apply kD_ | apply kA_)); refine kX_ ?_ NB144_159.out _; (with_reducible repeat (first | apply kN_ | apply kD_ | apply kA_)); exact BK144.out⟩
            have n1_ : Aside0 (((((w19.setCell ⟨gb159, 0, none⟩ (.int .i8 ((rd_T31 ((rd_T29 l0 0).f2) x5_2).f0))).setCell ⟨gb159, 1, none⟩ (.int .i8 ((rd_T31 ((rd_T29 l0 0).f2) x5_2).f1))).setCell ⟨gb159, 2, none⟩ (.int .i8 ((rd_T31 ((rd_T29 l0 0).f2) x5_2).f2))).setCell ⟨gb159, 3, none⟩ (.int .i8 ((rd_T31 ((rd_T29 l0 0).f2) x5_2).f3))).heap[gb145]? = some (.cells (arrC .i64 x146000_2) 60 (0, 0))) := ⟨by (with_reducible repeat (first | apply kN_ | apply kD_ | apply kA_)); refine kX_ ?_ NB145_159.out _; (with_reducible repeat (first | apply kN_ | apply kD_ | apply kA_)); refine kX_ ?_ NB145_159.out _; (with_reducible repeat (first | apply kN_ | apply kD_ | apply kA_)); refine kX_ ?_ NB145_159.out _; (with_reducible repeat (first | apply kN_ | apply kD_ | apply kA_)); refine kX_ ?_ NB145_159.out _; (with_reducible repeat (first | apply kN_ | apply kD_ | apply kA_)); exact BK145.out⟩
            have n2_ : Aside0 (((((w19.setCell ⟨gb159, 0, none⟩ (.int .i8 ((rd_T31 ((rd_T29 l0 0).f2) x5_2).f0))).setCell ⟨gb159, 1, none⟩ (.int .i8 ((rd_T31 ((rd_T29 l0 0).f2) x5_2).f1))).setCell ⟨gb159, 2, none⟩ (.int .i8 ((rd_T31 ((rd_T29 l0 0).f2) x5_2).f2))).setCell ⟨gb159, 3, none⟩ (.int .i8 ((rd_T31 ((rd_T29 l0 0).f2) x5_2).f3))).heap[gb159]? = some (.cells #[.int .i8 ((rd_T31 ((rd_T29 l0 0).f2) x5_2).f0), .int .i8 ((rd_T31 ((rd_T29 l0 0).f2) x5_2).f1), .int .i8 ((rd_T31 ((rd_T29 l0 0).f2) x5_2).f2), .int .i8 ((rd_T31 ((rd_T29 l0 0).f2) x5_2).f3)] 31 (0, 0))) := ⟨by (with_reducible repeat (first | apply kN_ | apply kD_ | apply kA_)); refine blk_put (cs := #[.int .i8 ((rd_T31 ((rd_T29 l0 0).f2) x5_2).f0), .int .i8 ((rd_T31 ((rd_T29 l0 0).f2) x5_2).f1), .int .i8 ((rd_T31 ((rd_T29 l0 0).f2) x5_2).f2), .int .i8 0]) ?_ 3 _ rfl; (with_reducible repeat (first | apply kN_ | apply kD_ | apply kA_)); refine blk_put (cs := #[.int .i8 ((rd_T31 ((rd_T29 l0 0).f2) x5_2).f0), .int .i8 ((rd_T31 ((rd_T29 l0 0).f2) x5_2).f1), .int .i8 0, .int .i8 0]) ?_ 2 _ rfl; (with_reducible repeat (first | apply kN_ | apply kD_ | apply kA_)); refine blk_put (cs := #[.int .i8 ((rd_T31 ((rd_T29 l0 0).f2) x5_2).f0), .int .i8 0, .int .i8 0, .int .i8 0]) ?_ 1 _ rfl; (with_reducible repeat (first | apply kN_ | apply kD_ | apply kA_)); refine blk_put (cs := #[.int .i8 0, .int .i8 0, .int .i8 0, .int .i8 0]) ?_ 0 _ rfl; (with_reducible repeat (first | apply kN_ | apply kD_ | apply kA_)); exact BK159.out⟩
            have n3_ : Aside0 (Below w.heap.size w ((((w19.setCell ⟨gb159, 0, none⟩ (.int .i8 ((rd_T31 ((rd_T29 l0 0).f2) x5_2).f0))).setCell ⟨gb159, 1, none⟩ (.int .i8 ((rd_T31 ((rd_T29 l0 0).f2) x5_2).f1))).setCell ⟨gb159, 2, none⟩ (.int .i8 ((rd_T31 ((rd_T29 l0 0).f2) x5_2).f2))).setCell ⟨gb159, 3, none⟩ (.int .i8 ((rd_T31 ((rd_T29 l0 0).f2) x5_2).f3)))) := ⟨by repeat (first | (with_reducible first | exact HB.out | apply bA_ | apply bN_ | apply bD_ | refine bS_ ?_ GE144.out | refine bS_ ?_ GE145.out | refine bS_ ?_ GE159.out) | exact HB.out)⟩
            (try clear BK144); (try clear BK145); (try clear BK159); (try clear HB); generalize ((((w19.setCell ⟨gb159, 0, none⟩ (.int .i8 ((rd_T31 ((rd_T29 l0 0).f2) x5_2).f0))).setCell ⟨gb159, 1, none⟩ (.int .i8 ((rd_T31 ((rd_T29 l0 0).f2) x5_2).f1))).setCell ⟨gb159, 2, none⟩ (.int .i8 ((rd_T31 ((rd_T29 l0 0).f2) x5_2).f2))).setCell ⟨gb159, 3, none⟩ (.int .i8 ((rd_T31 ((rd_T29 l0 0).f2) x5_2).f3))) = w34 at n0_ n1_ n2_ n3_ ⊢; have BK144 := n0_; have BK145 := n1_; have BK159 := n2_; have HB := n3_; clear n0_ n1_ n2_ n3_; have n0_ := am_ (kD_ BK144.out); have n1_ := am_ (kD_ BK145.out); have n2_ := am_ (kD_ BK159.out); have n3_ := am_ (bD_ HB.out); clear BK144; clear BK145; clear BK159; clear HB; have BK144 := n0_; have BK145 := n1_; have BK159 := n2_; have HB := n3_; clear n0_ n1_ n2_ n3_; refine start_ (n := 21) (S := fun w' => w'.cell? ⟨gb159, 0, none⟩ = some (.int .i8 ((rd_T31 ((rd_T29 l0 0).f2) x5_2).f0)) ∧ w'.cell? ⟨gb159, 1, none⟩ = some (.int .i8 ((rd_T31 ((rd_T29 l0 0).f2) x5_2).f1)) ∧ w'.cell? ⟨gb159, 2, none⟩ = some (.int .i8 ((rd_T31 ((rd_T29 l0 0).f2) x5_2).f2)) ∧ w'.cell? ⟨gb159, 3, none⟩ = some (.int .i8 ((rd_T31 ((rd_T29 l0 0).f2) x5_2).f3))) (ds := []) (mB_ 21 0) (by kernel_rfl) rfl rfl ⟨(kC_ BK159.out 0).trans rfl, (kC_ BK159.out 1).trans rfl, (kC_ BK159.out 2).trans rfl, (kC_ BK159.out 3).trans rfl⟩ (fun hHeld => ?_); refine with_tabW spec_l01Lay.tab8 spec_l01Lay.bits8 (fun HT_ HW_ => ?_); generalize w34.drew = w35 at BK144 BK145 BK159 HB hHeld ⊢; refine pure_ (i := 0) (N := some 51) (v := ?_) (a' := ?_) (mB_ 21 1) rfl rfl (any_of HT_.out (by kernel_rfl)) (fun _ _ _ h => h) (Or.inl ⟨by rfl, ?_⟩) ?_ ?_; rotate_left
            ·
             intro w'
             go_simp
             with_reducible rfl
            rotate_left
            ·
             simp only [Act.put, z1_, z2_, z3_, i64_w, i32_w]
             rfl
            refine take_ (i := 1) (N := some 52) (v := ?_) (a' := ?_) (mB_ 21 3) rfl rfl (take_ofW HT_.out HW_.out (by kernel_rfl)) (fun _ _ _ h => h) (Or.inl ⟨by rfl, ?_⟩) hHeld ?_ ?_; rotate_left
            ·
             rintro w' ⟨s0, s1, s2, s3⟩
             go_simp
             with_reducible rfl
            rotate_left
            ·
             simp only [Act.put, z1_, z2_, z3_, i64_w, i32_w]
             rfl
            refine one_ (i := 2) (N := some 53) (mB_ 21 7) rfl rfl (one_of HT_.out (by kernel_rfl)) (by decide) (fun K hK => ?_); refine goes_ Try.func50 (by kernel_rfl) rfl #[.pointer (some ad154), .agg #[.int .i8 ((rd_T31 ((rd_T29 l0 0).f2) x5_2).f0), .int .i8 ((rd_T31 ((rd_T29 l0 0).f2) x5_2).f1), .int .i8 ((rd_T31 ((rd_T29 l0 0).f2) x5_2).f2), .int .i8 ((rd_T31 ((rd_T29 l0 0).f2) x5_2).f3)]] (by rfl) rfl rfl (by (try simp only [List.map_toArray, List.map_cons, List.map_nil]); first | done | rfl | (simp only [List.length_drop, List.length_take]; rfl)) ?_
            with_reducible refine (spec_l01Lies.calls _ c0 l0 ((rd_T31 ((rd_T29 l0 0).f2) x5_2).f0) ((rd_T31 ((rd_T29 l0 0).f2) x5_2).f1) ((rd_T31 ((rd_T29 l0 0).f2) x5_2).f2) ((rd_T31 ((rd_T29 l0 0).f2) x5_2).f3) true _ ?side1 ?side2 A23.out).mono ?_
            (case side1 => repeat (first | exact (cB_ HR0.out HB.out) | (with_reducible refine Kd.C_alloc ?_ _) | (with_reducible refine Kd.C_drewN ?_ _) | (with_reducible refine Kd.C_drew ?_)))
            (case side2 => exact HC0.out)
            rintro e w36 ⟨rfl, hb⟩; refine ⟨_, rfl, ?_⟩; have n0_ := am_ (kB_ (g := gb144) (o := .cells (arrC .i64 x145000_2) 60 (0, 0)) (by (with_reducible repeat (first | apply kN_ | apply kD_ | apply kA_)); exact BK144.out) hb); have n1_ := am_ (kB_ (g := gb145) (o := .cells (arrC .i64 x146000_2) 60 (0, 0)) (by (with_reducible repeat (first | apply kN_ | apply kD_ | apply kA_)); exact BK145.out) hb); have n2_ := am_ (kB_ (g := gb159) (o := .cells #[.int .i8 ((rd_T31 ((rd_T29 l0 0).f2) x5_2).f0), .int .i8 ((rd_T31 ((rd_T29 l0 0).f2) x5_2).f1), .int .i8 ((rd_T31 ((rd_T29 l0 0).f2) x5_2).f2), .int .i8 ((rd_T31 ((rd_T29 l0 0).f2) x5_2).f3)] 31 (0, 0)) (by (with_reducible repeat (first | apply kN_ | apply kD_ | apply kA_)); exact BK159.out) hb); have n3_ := am_ (bT_ (by repeat (first | (with_reducible first | exact HB.out | apply bA_ | apply bN_ | apply bD_ | refine bS_ ?_ GE144.out | refine bS_ ?_ GE145.out | refine bS_ ?_ GE159.out) | exact HB.out)) hb); clear BK144; clear BK145; clear BK159; clear HB; have BK144 := n0_; have BK145 := n1_; have BK159 := n2_; have HB := n3_; clear n0_ n1_ n2_ n3_; (try clear hb); (try clear hb2); (try clear hk); (try clear hi); refine hK.out _ _ ⟨(kC_ BK159.out 0).trans rfl, (kC_ BK159.out 1).trans rfl, (kC_ BK159.out 2).trans rfl, (kC_ BK159.out 3).trans rfl⟩ (fun hHeld => ?_); clear hK K; refine norm_ (a' := ?_) ?_ ?_; rotate_left
            ·
             show Act.put _ (some 53) _ = _
             simp only [Act.put, z1_, z2_, z3_, i64_w, i32_w]
             rfl
            refine pure_ (i := 3) (N := some 54) (v := ?_) (a' := ?_) (mB_ 21 15) rfl rfl (any_of HT_.out (by kernel_rfl)) (fun _ _ _ h => h) (Or.inl ⟨by rfl, ?_⟩) ?_ ?_; rotate_left
            ·
             intro w'
             go_simp
             with_reducible rfl
            rotate_left
            ·
             simp only [Act.put, z1_, z2_, z3_, i64_w, i32_w]
             rfl
            refine pure_ (i := 4) (N := some 55) (v := ?_) (a' := ?_) (mB_ 21 31) rfl rfl (any_of HT_.out (by kernel_rfl)) (fun _ _ _ h => h) (Or.inl ⟨by rfl, ?_⟩) ?_ ?_; rotate_left
            ·
             intro w'
             go_simp
             with_reducible rfl
            rotate_left
            ·
             simp only [Act.put, z1_, z2_, z3_, i64_w, i32_w]
             rfl
            refine pure_ (i := 5) (N := some 56) (v := ?_) (a' := ?_) (mB_ 21 63) rfl rfl (any_of HT_.out (by kernel_rfl)) (fun _ _ _ h => h) (Or.inl ⟨by rfl, ?_⟩) ?_ ?_; rotate_left
            ·
             intro w'
             go_simp
             with_reducible rfl
            rotate_left
            ·
             simp only [Act.put, z1_, z2_, z3_, i64_w, i32_w]
             rfl
            refine pure_ (i := 6) (N := some 57) (v := ?_) (a' := ?_) (mB_ 21 127) rfl rfl (any_of HT_.out (by kernel_rfl)) (fun _ _ _ h => h) (Or.inl ⟨by rfl, ?_⟩) ?_ ?_; rotate_left
            ·
             intro w'
             go_simp
             with_reducible rfl
            rotate_left
            ·
             simp only [Act.put, z1_, z2_, z3_, i64_w, i32_w]
             rfl
            refine pure_ (i := 7) (N := some 58) (v := ?_) (a' := ?_) (mB_ 21 255) rfl rfl (any_of HT_.out (by kernel_rfl)) (fun _ _ _ h => h) (Or.inl ⟨by rfl, ?_⟩) ?_ ?_; rotate_left
            ·
             intro w'
             go_simp
             with_reducible rfl
            rotate_left
            ·
             simp only [Act.put, z1_, z2_, z3_, i64_w, i32_w]
             rfl
            refine pure_ (i := 8) (N := some 59) (v := undef) (a' := ?_) (mB_ 21 511) rfl rfl (any_of HT_.out (by kernel_rfl)) (fun _ _ _ h => h) (Or.inr ⟨by rfl, rfl⟩) ?_ ?_; rotate_left
            ·
             simp only [Act.put, z1_, z2_, z3_, i64_w, i32_w]
             rfl
            refine pure_ (i := 9) (N := some 60) (v := undef) (a' := ?_) (mB_ 21 1023) rfl rfl (any_of HT_.out (by kernel_rfl)) (fun _ _ _ h => h) (Or.inr ⟨by rfl, rfl⟩) ?_ ?_; rotate_left
            ·
             simp only [Act.put, z1_, z2_, z3_, i64_w, i32_w]
             rfl
            refine pure_ (i := 10) (N := some 61) (v := undef) (a' := ?_) (mB_ 21 2047) rfl rfl (any_of HT_.out (by kernel_rfl)) (fun _ _ _ h => h) (Or.inr ⟨by rfl, rfl⟩) ?_ ?_; rotate_left
            ·
             simp only [Act.put, z1_, z2_, z3_, i64_w, i32_w]
             rfl
            refine pure_ (i := 11) (N := some 62) (v := undef) (a' := ?_) (mB_ 21 4095) rfl rfl (any_of HT_.out (by kernel_rfl)) (fun _ _ _ h => h) (Or.inr ⟨by rfl, rfl⟩) ?_ ?_; rotate_left
            ·
             simp only [Act.put, z1_, z2_, z3_, i64_w, i32_w]
             rfl
            refine pure_ (i := 12) (N := some 63) (v := undef) (a' := ?_) (mB_ 21 8191) rfl rfl (any_of HT_.out (by kernel_rfl)) (fun _ _ _ h => h) (Or.inr ⟨by rfl, rfl⟩) ?_ ?_; rotate_left
            ·
             simp only [Act.put, z1_, z2_, z3_, i64_w, i32_w]
             rfl
            refine pure_ (i := 13) (N := some 64) (v := undef) (a' := ?_) (mB_ 21 16383) rfl rfl (any_of HT_.out (by kernel_rfl)) (fun _ _ _ h => h) (Or.inr ⟨by rfl, rfl⟩) ?_ ?_; rotate_left
            ·
             simp only [Act.put, z1_, z2_, z3_, i64_w, i32_w]
             rfl
            refine pure_ (i := 14) (N := some 65) (v := undef) (a' := ?_) (mB_ 21 32767) rfl rfl (any_of HT_.out (by kernel_rfl)) (fun _ _ _ h => h) (Or.inr ⟨by rfl, rfl⟩) ?_ ?_; rotate_left
            ·
             simp only [Act.put, z1_, z2_, z3_, i64_w, i32_w]
             rfl
            refine pure_ (i := 15) (N := some 66) (v := undef) (a' := ?_) (mB_ 21 65535) rfl rfl (any_of HT_.out (by kernel_rfl)) (fun _ _ _ h => h) (Or.inr ⟨by rfl, rfl⟩) ?_ ?_; rotate_left
            ·
             simp only [Act.put, z1_, z2_, z3_, i64_w, i32_w]
             rfl
            refine pure_ (i := 16) (N := some 67) (v := undef) (a' := ?_) (mB_ 21 131071) rfl rfl (any_of HT_.out (by kernel_rfl)) (fun _ _ _ h => h) (Or.inr ⟨by rfl, rfl⟩) ?_ ?_; rotate_left
            ·
             simp only [Act.put, z1_, z2_, z3_, i64_w, i32_w]
             rfl
            refine pure_ (i := 17) (N := some 68) (v := undef) (a' := ?_) (mB_ 21 262143) rfl rfl (any_of HT_.out (by kernel_rfl)) (fun _ _ _ h => h) (Or.inr ⟨by rfl, rfl⟩) ?_ ?_; rotate_left
            ·
             simp only [Act.put, z1_, z2_, z3_, i64_w, i32_w]
             rfl
            refine pure_ (i := 18) (N := some 69) (v := undef) (a' := ?_) (mB_ 21 524287) rfl rfl (any_of HT_.out (by kernel_rfl)) (fun _ _ _ h => h) (Or.inr ⟨by rfl, rfl⟩) ?_ ?_; rotate_left
            ·
             simp only [Act.put, z1_, z2_, z3_, i64_w, i32_w]
             rfl
            refine pure_ (i := 19) (N := some 70) (v := ?_) (a' := ?_) (mB_ 21 1048575) rfl rfl (any_of HT_.out (by kernel_rfl)) (fun _ _ _ h => h) (Or.inl ⟨by rfl, ?_⟩) ?_ ?_; rotate_left
            ·
             intro w'
             go_simp
             with_reducible rfl
            rotate_left
            ·
             simp only [Act.put, z1_, z2_, z3_, i64_w, i32_w]
             rfl
            refine pure_ (i := 20) (N := some 71) (v := ?_) (a' := ?_) (mB_ 21 2097151) rfl rfl (any_of HT_.out (by kernel_rfl)) (fun _ _ _ h => h) (Or.inl ⟨by rfl, ?_⟩) ?_ ?_; rotate_left
            ·
             intro w'
             go_simp
             with_reducible rfl
            rotate_left
            ·
             simp only [Act.put, z1_, z2_, z3_, i64_w, i32_w]
             rfl
            refine done_ (done_of HT_.out (by kernel_rfl)) ?_
            try go_wp2
            go_meet
            case rel => exact ⟨_, (false), (by first | rfl | (simp; done) | (simp [*]; done)), H', ⟨by have := HJ1.out; have := HK2.out; first | omega | exact Nat.le_refl _⟩, ⟨by (with_reducible repeat (first | apply kN_ | apply kD_ | apply kA_)); exact BK144.out⟩, ⟨by (with_reducible repeat (first | apply kN_ | apply kD_ | apply kA_)); exact BK145.out⟩, ⟨by (with_reducible repeat (first | apply kN_ | apply kD_ | apply kA_)); exact BK159.out⟩, ⟨by repeat (first | (with_reducible first | exact HB.out | apply bA_ | apply bN_ | apply bD_ | refine bS_ ?_ GE144.out | refine bS_ ?_ GE145.out | refine bS_ ?_ GE159.out) | exact HB.out)⟩⟩
          ·
           replace c24 := Bool.eq_false_iff.mpr c24; subst c24; have H1 : (spec_l01Lay.j2 k2 l0 x5_2 true x145000_2 x146000_2 ((rd_T31 ((rd_T29 l0 0).f2) x5_2).f0) ((rd_T31 ((rd_T29 l0 0).f2) x5_2).f1) ((rd_T31 ((rd_T29 l0 0).f2) x5_2).f2) ((rd_T31 ((rd_T29 l0 0).f2) x5_2).f3)) = some (r1, r2) := by rw [if_neg (show ¬ (false = true) by decide)] at H; exact H
           clear H; have H := H1; clear H1; have H' := am_ H; clear H
           try go_wp2
           have n0_ : Aside0 (((((w19.setCell ⟨gb159, 0, none⟩ (.int .i8 ((rd_T31 ((rd_T29 l0 0).f2) x5_2).f0))).setCell ⟨gb159, 1, none⟩ (.int .i8 ((rd_T31 ((rd_T29 l0 0).f2) x5_2).f1))).setCell ⟨gb159, 2, none⟩ (.int .i8 ((rd_T31 ((rd_T29 l0 0).f2) x5_2).f2))).setCell ⟨gb159, 3, none⟩ (.int .i8 ((rd_T31 ((rd_T29 l0 0).f2) x5_2).f3))).heap[gb144]? = some (.cells (arrC .i64 x145000_2) 60 (0, 0))) := ⟨by (with_reducible repeat (first | apply kN_ | apply kD_ | apply kA_)); refine kX_ ?_ NB144_159.out _; (with_reducible repeat (first | apply kN_ | apply kD_ | apply kA_)); refine kX_ ?_ NB144_159.out _; (with_reducible repeat (first | apply kN_ | apply kD_ | apply kA_)); refine kX_ ?_ NB144_159.out _; (with_reducible repeat (first | apply kN_ | apply kD_ | apply kA_)); refine kX_ ?_ NB144_159.out _; (with_reducible repeat (first | apply kN_ | apply kD_ | apply kA_)); exact BK144.out⟩
           have n1_ : Aside0 (((((w19.setCell ⟨gb159, 0, none⟩ (.int .i8 ((rd_T31 ((rd_T29 l0 0).f2) x5_2).f0))).setCell ⟨gb159, 1, none⟩ (.int .i8 ((rd_T31 ((rd_T29 l0 0).f2) x5_2).f1))).setCell ⟨gb159, 2, none⟩ (.int .i8 ((rd_T31 ((rd_T29 l0 0).f2) x5_2).f2))).setCell ⟨gb159, 3, none⟩ (.int .i8 ((rd_T31 ((rd_T29 l0 0).f2) x5_2).f3))).heap[gb145]? = some (.cells (arrC .i64 x146000_2) 60 (0, 0))) := ⟨by (with_reducible repeat (first | apply kN_ | apply kD_ | apply kA_)); refine kX_ ?_ NB145_159.out _; (with_reducible repeat (first | apply kN_ | apply kD_ | apply kA_)); refine kX_ ?_ NB145_159.out _; (with_reducible repeat (first | apply kN_ | apply kD_ | apply kA_)); refine kX_ ?_ NB145_159.out _; (with_reducible repeat (first | apply kN_ | apply kD_ | apply kA_)); refine kX_ ?_ NB145_159.out _; (with_reducible repeat (first | apply kN_ | apply kD_ | apply kA_)); exact BK145.out⟩
           have n2_ : Aside0 (((((w19.setCell ⟨gb159, 0, none⟩ (.int .i8 ((rd_T31 ((rd_T29 l0 0).f2) x5_2).f0))).setCell ⟨gb159, 1, none⟩ (.int .i8 ((rd_T31 ((rd_T29 l0 0).f2) x5_2).f1))).setCell ⟨gb159, 2, none⟩ (.int .i8 ((rd_T31 ((rd_T29 l0 0).f2) x5_2).f2))).setCell ⟨gb159, 3, none⟩ (.int .i8 ((rd_T31 ((rd_T29 l0 0).f2) x5_2).f3))).heap[gb159]? = some (.cells #[.int .i8 ((rd_T31 ((rd_T29 l0 0).f2) x5_2).f0), .int .i8 ((rd_T31 ((rd_T29 l0 0).f2) x5_2).f1), .int .i8 ((rd_T31 ((rd_T29 l0 0).f2) x5_2).f2), .int .i8 ((rd_T31 ((rd_T29 l0 0).f2) x5_2).f3)] 31 (0, 0))) := ⟨by (with_reducible repeat (first | apply kN_ | apply kD_ | apply kA_)); refine blk_put (cs := #[.int .i8 ((rd_T31 ((rd_T29 l0 0).f2) x5_2).f0), .int .i8 ((rd_T31 ((rd_T29 l0 0).f2) x5_2).f1), .int .i8 ((rd_T31 ((rd_T29 l0 0).f2) x5_2).f2), .int .i8 0]) ?_ 3 _ rfl; (with_reducible repeat (first | apply kN_ | apply kD_ | apply kA_)); refine blk_put (cs := #[.int .i8 ((rd_T31 ((rd_T29 l0 0).f2) x5_2).f0), .int .i8 ((rd_T31 ((rd_T29 l0 0).f2) x5_2).f1), .int .i8 0, .int .i8 0]) ?_ 2 _ rfl; (with_reducible repeat (first | apply kN_ | apply kD_ | apply kA_)); refine blk_put (cs := #[.int .i8 ((rd_T31 ((rd_T29 l0 0).f2) x5_2).f0), .int .i8 0, .int .i8 0, .int .i8 0]) ?_ 1 _ rfl; (with_reducible repeat (first | apply kN_ | apply kD_ | apply kA_)); refine blk_put (cs := #[.int .i8 0, .int .i8 0, .int .i8 0, .int .i8 0]) ?_ 0 _ rfl; (with_reducible repeat (first | apply kN_ | apply kD_ | apply kA_)); exact BK159.out⟩
           have n3_ : Aside0 (Below w.heap.size w ((((w19.setCell ⟨gb159, 0, none⟩ (.int .i8 ((rd_T31 ((rd_T29 l0 0).f2) x5_2).f0))).setCell ⟨gb159, 1, none⟩ (.int .i8 ((rd_T31 ((rd_T29 l0 0).f2) x5_2).f1))).setCell ⟨gb159, 2, none⟩ (.int .i8 ((rd_T31 ((rd_T29 l0 0).f2) x5_2).f2))).setCell ⟨gb159, 3, none⟩ (.int .i8 ((rd_T31 ((rd_T29 l0 0).f2) x5_2).f3)))) := ⟨by repeat (first | (with_reducible first | exact HB.out | apply bA_ | apply bN_ | apply bD_ | refine bS_ ?_ GE144.out | refine bS_ ?_ GE145.out | refine bS_ ?_ GE159.out) | exact HB.out)⟩
           (try clear BK144); (try clear BK145); (try clear BK159); (try clear HB); generalize ((((w19.setCell ⟨gb159, 0, none⟩ (.int .i8 ((rd_T31 ((rd_T29 l0 0).f2) x5_2).f0))).setCell ⟨gb159, 1, none⟩ (.int .i8 ((rd_T31 ((rd_T29 l0 0).f2) x5_2).f1))).setCell ⟨gb159, 2, none⟩ (.int .i8 ((rd_T31 ((rd_T29 l0 0).f2) x5_2).f2))).setCell ⟨gb159, 3, none⟩ (.int .i8 ((rd_T31 ((rd_T29 l0 0).f2) x5_2).f3))) = w37 at n0_ n1_ n2_ n3_ ⊢; have BK144 := n0_; have BK145 := n1_; have BK159 := n2_; have HB := n3_; clear n0_ n1_ n2_ n3_; have n0_ := am_ (kD_ BK144.out); have n1_ := am_ (kD_ BK145.out); have n2_ := am_ (kD_ BK159.out); have n3_ := am_ (bD_ HB.out); clear BK144; clear BK145; clear BK159; clear HB; have BK144 := n0_; have BK145 := n1_; have BK159 := n2_; have HB := n3_; clear n0_ n1_ n2_ n3_; refine start_ (n := 21) (S := fun w' => w'.cell? ⟨gb159, 0, none⟩ = some (.int .i8 ((rd_T31 ((rd_T29 l0 0).f2) x5_2).f0)) ∧ w'.cell? ⟨gb159, 1, none⟩ = some (.int .i8 ((rd_T31 ((rd_T29 l0 0).f2) x5_2).f1)) ∧ w'.cell? ⟨gb159, 2, none⟩ = some (.int .i8 ((rd_T31 ((rd_T29 l0 0).f2) x5_2).f2)) ∧ w'.cell? ⟨gb159, 3, none⟩ = some (.int .i8 ((rd_T31 ((rd_T29 l0 0).f2) x5_2).f3))) (ds := []) (mB_ 21 0) (by kernel_rfl) rfl rfl ⟨(kC_ BK159.out 0).trans rfl, (kC_ BK159.out 1).trans rfl, (kC_ BK159.out 2).trans rfl, (kC_ BK159.out 3).trans rfl⟩ (fun hHeld => ?_); refine with_tabW spec_l01Lay.tab8 spec_l01Lay.bits8 (fun HT_ HW_ => ?_); generalize w37.drew = w38 at BK144 BK145 BK159 HB hHeld ⊢; refine pure_ (i := 0) (N := some 51) (v := ?_) (a' := ?_) (mB_ 21 1) rfl rfl (any_of HT_.out (by kernel_rfl)) (fun _ _ _ h => h) (Or.inl ⟨by rfl, ?_⟩) ?_ ?_; rotate_left
           ·
            intro w'
            go_simp
            with_reducible rfl
           rotate_left
           ·
            simp only [Act.put, z1_, z2_, z3_, i64_w, i32_w]
            rfl
           refine take_ (i := 1) (N := some 52) (v := ?_) (a' := ?_) (mB_ 21 3) rfl rfl (take_ofW HT_.out HW_.out (by kernel_rfl)) (fun _ _ _ h => h) (Or.inl ⟨by rfl, ?_⟩) hHeld ?_ ?_; rotate_left
           ·
            rintro w' ⟨s0, s1, s2, s3⟩
            go_simp
            with_reducible rfl
           rotate_left
           ·
            simp only [Act.put, z1_, z2_, z3_, i64_w, i32_w]
            rfl
           refine one_ (i := 2) (N := some 53) (mB_ 21 7) rfl rfl (one_of HT_.out (by kernel_rfl)) (by decide) (fun K hK => ?_); refine goes_ Try.func50 (by kernel_rfl) rfl #[.pointer (some ad154), .agg #[.int .i8 ((rd_T31 ((rd_T29 l0 0).f2) x5_2).f0), .int .i8 ((rd_T31 ((rd_T29 l0 0).f2) x5_2).f1), .int .i8 ((rd_T31 ((rd_T29 l0 0).f2) x5_2).f2), .int .i8 ((rd_T31 ((rd_T29 l0 0).f2) x5_2).f3)]] (by rfl) rfl rfl (by (try simp only [List.map_toArray, List.map_cons, List.map_nil]); first | done | rfl | (simp only [List.length_drop, List.length_take]; rfl)) ?_
           with_reducible refine (spec_l01Lies.calls _ c0 l0 ((rd_T31 ((rd_T29 l0 0).f2) x5_2).f0) ((rd_T31 ((rd_T29 l0 0).f2) x5_2).f1) ((rd_T31 ((rd_T29 l0 0).f2) x5_2).f2) ((rd_T31 ((rd_T29 l0 0).f2) x5_2).f3) false _ ?side1 ?side2 A23.out).mono ?_
           (case side1 => repeat (first | exact (cB_ HR0.out HB.out) | (with_reducible refine Kd.C_alloc ?_ _) | (with_reducible refine Kd.C_drewN ?_ _) | (with_reducible refine Kd.C_drew ?_)))
           (case side2 => exact HC0.out)
           rintro e w39 ⟨rfl, hb⟩; refine ⟨_, rfl, ?_⟩; have n0_ := am_ (kB_ (g := gb144) (o := .cells (arrC .i64 x145000_2) 60 (0, 0)) (by (with_reducible repeat (first | apply kN_ | apply kD_ | apply kA_)); exact BK144.out) hb); have n1_ := am_ (kB_ (g := gb145) (o := .cells (arrC .i64 x146000_2) 60 (0, 0)) (by (with_reducible repeat (first | apply kN_ | apply kD_ | apply kA_)); exact BK145.out) hb); have n2_ := am_ (kB_ (g := gb159) (o := .cells #[.int .i8 ((rd_T31 ((rd_T29 l0 0).f2) x5_2).f0), .int .i8 ((rd_T31 ((rd_T29 l0 0).f2) x5_2).f1), .int .i8 ((rd_T31 ((rd_T29 l0 0).f2) x5_2).f2), .int .i8 ((rd_T31 ((rd_T29 l0 0).f2) x5_2).f3)] 31 (0, 0)) (by (with_reducible repeat (first | apply kN_ | apply kD_ | apply kA_)); exact BK159.out) hb); have n3_ := am_ (bT_ (by repeat (first | (with_reducible first | exact HB.out | apply bA_ | apply bN_ | apply bD_ | refine bS_ ?_ GE144.out | refine bS_ ?_ GE145.out | refine bS_ ?_ GE159.out) | exact HB.out)) hb); clear BK144; clear BK145; clear BK159; clear HB; have BK144 := n0_; have BK145 := n1_; have BK159 := n2_; have HB := n3_; clear n0_ n1_ n2_ n3_; (try clear hb); (try clear hb2); (try clear hk); (try clear hi); refine hK.out _ _ ⟨(kC_ BK159.out 0).trans rfl, (kC_ BK159.out 1).trans rfl, (kC_ BK159.out 2).trans rfl, (kC_ BK159.out 3).trans rfl⟩ (fun hHeld => ?_); clear hK K; refine norm_ (a' := ?_) ?_ ?_; rotate_left
           ·
            show Act.put _ (some 53) _ = _
            simp only [Act.put, z1_, z2_, z3_, i64_w, i32_w]
            rfl
           refine pure_ (i := 3) (N := some 54) (v := ?_) (a' := ?_) (mB_ 21 15) rfl rfl (any_of HT_.out (by kernel_rfl)) (fun _ _ _ h => h) (Or.inl ⟨by rfl, ?_⟩) ?_ ?_; rotate_left
           ·
            intro w'
            go_simp
            with_reducible rfl
           rotate_left
           ·
            simp only [Act.put, z1_, z2_, z3_, i64_w, i32_w]
            rfl
           refine pure_ (i := 4) (N := some 55) (v := ?_) (a' := ?_) (mB_ 21 31) rfl rfl (any_of HT_.out (by kernel_rfl)) (fun _ _ _ h => h) (Or.inl ⟨by rfl, ?_⟩) ?_ ?_; rotate_left
           ·
            intro w'
            go_simp
            with_reducible rfl
           rotate_left
           ·
            simp only [Act.put, z1_, z2_, z3_, i64_w, i32_w]
            rfl
           refine pure_ (i := 5) (N := some 56) (v := undef) (a' := ?_) (mB_ 21 63) rfl rfl (any_of HT_.out (by kernel_rfl)) (fun _ _ _ h => h) (Or.inr ⟨by rfl, rfl⟩) ?_ ?_; rotate_left
           ·
            simp only [Act.put, z1_, z2_, z3_, i64_w, i32_w]
            rfl
           refine pure_ (i := 6) (N := some 57) (v := undef) (a' := ?_) (mB_ 21 127) rfl rfl (any_of HT_.out (by kernel_rfl)) (fun _ _ _ h => h) (Or.inr ⟨by rfl, rfl⟩) ?_ ?_; rotate_left
           ·
            simp only [Act.put, z1_, z2_, z3_, i64_w, i32_w]
            rfl
           refine pure_ (i := 7) (N := some 58) (v := undef) (a' := ?_) (mB_ 21 255) rfl rfl (any_of HT_.out (by kernel_rfl)) (fun _ _ _ h => h) (Or.inr ⟨by rfl, rfl⟩) ?_ ?_; rotate_left
           ·
            simp only [Act.put, z1_, z2_, z3_, i64_w, i32_w]
            rfl
           refine pure_ (i := 8) (N := some 59) (v := undef) (a' := ?_) (mB_ 21 511) rfl rfl (any_of HT_.out (by kernel_rfl)) (fun _ _ _ h => h) (Or.inr ⟨by rfl, rfl⟩) ?_ ?_; rotate_left
           ·
            simp only [Act.put, z1_, z2_, z3_, i64_w, i32_w]
            rfl
           refine pure_ (i := 9) (N := some 60) (v := undef) (a' := ?_) (mB_ 21 1023) rfl rfl (any_of HT_.out (by kernel_rfl)) (fun _ _ _ h => h) (Or.inr ⟨by rfl, rfl⟩) ?_ ?_; rotate_left
           ·
            simp only [Act.put, z1_, z2_, z3_, i64_w, i32_w]
            rfl
           refine pure_ (i := 10) (N := some 61) (v := undef) (a' := ?_) (mB_ 21 2047) rfl rfl (any_of HT_.out (by kernel_rfl)) (fun _ _ _ h => h) (Or.inr ⟨by rfl, rfl⟩) ?_ ?_; rotate_left
           ·
            simp only [Act.put, z1_, z2_, z3_, i64_w, i32_w]
            rfl
           refine pure_ (i := 11) (N := some 62) (v := undef) (a' := ?_) (mB_ 21 4095) rfl rfl (any_of HT_.out (by kernel_rfl)) (fun _ _ _ h => h) (Or.inr ⟨by rfl, rfl⟩) ?_ ?_; rotate_left
           ·
            simp only [Act.put, z1_, z2_, z3_, i64_w, i32_w]
            rfl
           refine pure_ (i := 12) (N := some 63) (v := undef) (a' := ?_) (mB_ 21 8191) rfl rfl (any_of HT_.out (by kernel_rfl)) (fun _ _ _ h => h) (Or.inr ⟨by rfl, rfl⟩) ?_ ?_; rotate_left
           ·
            simp only [Act.put, z1_, z2_, z3_, i64_w, i32_w]
            rfl
           refine pure_ (i := 13) (N := some 64) (v := undef) (a' := ?_) (mB_ 21 16383) rfl rfl (any_of HT_.out (by kernel_rfl)) (fun _ _ _ h => h) (Or.inr ⟨by rfl, rfl⟩) ?_ ?_; rotate_left
           ·
            simp only [Act.put, z1_, z2_, z3_, i64_w, i32_w]
            rfl
           refine pure_ (i := 14) (N := some 65) (v := undef) (a' := ?_) (mB_ 21 32767) rfl rfl (any_of HT_.out (by kernel_rfl)) (fun _ _ _ h => h) (Or.inr ⟨by rfl, rfl⟩) ?_ ?_; rotate_left
           ·
            simp only [Act.put, z1_, z2_, z3_, i64_w, i32_w]
            rfl
           refine pure_ (i := 15) (N := some 66) (v := undef) (a' := ?_) (mB_ 21 65535) rfl rfl (any_of HT_.out (by kernel_rfl)) (fun _ _ _ h => h) (Or.inr ⟨by rfl, rfl⟩) ?_ ?_; rotate_left
           ·
            simp only [Act.put, z1_, z2_, z3_, i64_w, i32_w]
            rfl
           refine pure_ (i := 16) (N := some 67) (v := undef) (a' := ?_) (mB_ 21 131071) rfl rfl (any_of HT_.out (by kernel_rfl)) (fun _ _ _ h => h) (Or.inr ⟨by rfl, rfl⟩) ?_ ?_; rotate_left
           ·
            simp only [Act.put, z1_, z2_, z3_, i64_w, i32_w]
            rfl
           refine pure_ (i := 17) (N := some 68) (v := undef) (a' := ?_) (mB_ 21 262143) rfl rfl (any_of HT_.out (by kernel_rfl)) (fun _ _ _ h => h) (Or.inr ⟨by rfl, rfl⟩) ?_ ?_; rotate_left
           ·
            simp only [Act.put, z1_, z2_, z3_, i64_w, i32_w]
            rfl
           refine pure_ (i := 18) (N := some 69) (v := undef) (a' := ?_) (mB_ 21 524287) rfl rfl (any_of HT_.out (by kernel_rfl)) (fun _ _ _ h => h) (Or.inr ⟨by rfl, rfl⟩) ?_ ?_; rotate_left
           ·
            simp only [Act.put, z1_, z2_, z3_, i64_w, i32_w]
            rfl
           refine pure_ (i := 19) (N := some 70) (v := undef) (a' := ?_) (mB_ 21 1048575) rfl rfl (any_of HT_.out (by kernel_rfl)) (fun _ _ _ h => h) (Or.inr ⟨by rfl, rfl⟩) ?_ ?_; rotate_left
           ·
            simp only [Act.put, z1_, z2_, z3_, i64_w, i32_w]
            rfl
           refine pure_ (i := 20) (N := some 71) (v := ?_) (a' := ?_) (mB_ 21 2097151) rfl rfl (any_of HT_.out (by kernel_rfl)) (fun _ _ _ h => h) (Or.inl ⟨by rfl, ?_⟩) ?_ ?_; rotate_left
           ·
            intro w'
            go_simp
            with_reducible rfl
           rotate_left
           ·
            simp only [Act.put, z1_, z2_, z3_, i64_w, i32_w]
            rfl
           refine done_ (done_of HT_.out (by kernel_rfl)) ?_
           try go_wp2
           go_meet
           case rel => exact ⟨_, (true), (by first | rfl | (simp; done) | (simp [*]; done)), H', ⟨by have := HJ1.out; have := HK2.out; first | omega | exact Nat.le_refl _⟩, ⟨by (with_reducible repeat (first | apply kN_ | apply kD_ | apply kA_)); exact BK144.out⟩, ⟨by (with_reducible repeat (first | apply kN_ | apply kD_ | apply kA_)); exact BK145.out⟩, ⟨by (with_reducible repeat (first | apply kN_ | apply kD_ | apply kA_)); exact BK159.out⟩, ⟨by repeat (first | (with_reducible first | exact HB.out | apply bA_ | apply bN_ | apply bD_ | refine bS_ ?_ GE144.out | refine bS_ ?_ GE145.out | refine bS_ ?_ GE159.out) | exact HB.out)⟩⟩
         case rest =>
          clear HC18; (try clear c1); (try clear p1); (try clear q1); (try clear hx1); (try clear c2); (try clear p2); (try clear c5); (try clear c16); (try clear p16); (try clear q16); (try clear hx16); (try clear c24); (try clear c25); (try clear c25b0); (try clear c27); (try clear c28); (try clear hx161_0); (try clear hx161_1); (try clear hx161_2); (try clear hx162_0); (try clear hx162_1); (try clear hx162_2); (try clear hx163_0); (try clear hx163_1); (try clear hx163_2); (try clear hx163_3); (try clear p163); (try clear q163); obtain ⟨kq, x71_17, rfl, HA, HJ17, BK144, BK145, BK159, HB⟩ := hcut
          cases kq with
          | zero => exact absurd HA.out (by simp [spec_l01Lay.j2])
          | succ kj17 =>
           have H := HA.out; clear HA; simp only [spec_l01Lay.j2] at H
           by_cases c40 : x71_17 = true
           ·
            subst c40; have H1 : (if x146000_2.length = 144 then (if x145000_2.length = 144 then (some (x146000_2, false)) else (none)) else (none)) = some (r1, r2) := by rw [if_pos rfl] at H; exact H
            clear H; have H := H1; clear H1
            by_cases c41 : x146000_2.length = 144
            ·
             rw [if_pos c41] at H; have c41b0 := eq_true c41; have c41b1 : decide (x146000_2.length = 144) = true := decide_eq_true c41; clear c41
             by_cases c42 : x145000_2.length = 144
             ·
              rw [if_pos c42] at H; have c42b0 := eq_true c42; have c42b1 : decide (x145000_2.length = 144) = true := decide_eq_true c42; clear c42; simp only [Option.some.injEq, Prod.mk.injEq] at H; obtain ⟨rfl, rfl⟩ := H
              go_wp2_with (first | ((with_reducible refine gate_dst (N := 72) rfl ?_); (try (refine gate_guard (by rfl) ?_; dsimp only)); refine arr_load (p := 4) (n := 144) (k := .i64) (g := gb145) (l := x146000_2) ?hg (N := 72) ?hd (t := 60) ?ho ?hp (by (with_reducible repeat (first | apply kN_ | apply kD_ | apply kA_)); exact BK145.out) Try.underlying60 (by kernel_rfl) (od_ (by first | (with_reducible assumption) | assumption)) ?_; (case hd => rfl); (case hg => rfl); (case ho => rfl); (case hp => rfl)) | ((with_reducible refine gate_store (t := 60) (p := 2) rfl ?_); refine arr_store (p := 2) (v := ?vv_w43) (n := 144) (k := .i64) (g := gb144) (l := x145000_2) (l2 := x146000_2) ?hg ?hn (t := 60) ?ho ?hp ?hv (by (with_reducible repeat (first | apply kN_ | apply kD_ | apply kA_)); exact BK144.out) (by kernel_rfl) (od_ (by first | (with_reducible assumption) | assumption)) (od_ (by first | (with_reducible assumption) | assumption)) ?_; (case ho => rfl); (case hg => rfl); (case hn => rfl); (case hp => rfl); (case hv => rfl); intro w43 hg hx; have n0_ := am_ (hx); have n1_ := am_ (blk_grown (g := gb145) (o := .cells (arrC .i64 x146000_2) 60 (0, 0)) (by (with_reducible repeat (first | apply kN_ | apply kD_ | apply kA_)); exact BK145.out) hg (fun e_ => NB145_144.out (Option.some.inj e_))); have n2_ := am_ (blk_grown (g := gb159) (o := .cells #[.int .i8 ((rd_T31 ((rd_T29 l0 0).f2) x5_2).f0), .int .i8 ((rd_T31 ((rd_T29 l0 0).f2) x5_2).f1), .int .i8 ((rd_T31 ((rd_T29 l0 0).f2) x5_2).f2), .int .i8 ((rd_T31 ((rd_T29 l0 0).f2) x5_2).f3)] 31 (0, 0)) (by (with_reducible repeat (first | apply kN_ | apply kD_ | apply kA_)); exact BK159.out) hg (fun e_ => NB159_144.out (Option.some.inj e_))); have n3_ := am_ (Below.grown (by repeat (first | (with_reducible first | exact HB.out | apply bA_ | apply bN_ | apply bD_ | refine bS_ ?_ GE144.out | refine bS_ ?_ GE145.out | refine bS_ ?_ GE159.out) | exact HB.out)) hg (bZ_ (by repeat (first | (with_reducible first | exact HB.out | apply bA_ | apply bN_ | apply bD_ | refine bS_ ?_ GE144.out | refine bS_ ?_ GE145.out | refine bS_ ?_ GE159.out) | exact HB.out))) (fun k_ e_ => by cases e_; exact GE144.out)); clear BK144; clear BK145; clear BK159; clear HB; have BK144 := n0_; have BK145 := n1_; have BK159 := n2_; have HB := n3_; clear n0_ n1_ n2_ n3_; clear hg hx))
              refine bodyPost_ret (results_ct rfl _ _ gb144 60 (arrC .i64 x146000_2) (0, 0) _ rfl (by (with_reducible repeat (first | apply kN_ | apply kD_ | apply kA_)); exact BK144.out) Try.underlying60 rfl (by first | (rw [arrC_size, (od_ (by first | (with_reducible assumption) | assumption) : x146000_2.length = 144)]; kernel_rfl) | kernel_rfl)) rfl ?_; exact ⟨by first | rfl | (simp [errW_none, errW_some] <;> rfl) | (simp [*, errW_none, errW_some] <;> rfl), by repeat (first | (with_reducible first | exact HB.out | apply bA_ | apply bN_ | apply bD_ | refine bS_ ?_ GE144.out | refine bS_ ?_ GE145.out | refine bS_ ?_ GE159.out) | exact HB.out)⟩
             ·
              rw [if_neg c42] at H; exact absurd H (by simp)
            ·
             rw [if_neg c41] at H; exact absurd H (by simp)
           ·
            replace c40 := Bool.eq_false_iff.mpr c40; subst c40; have H1 : (spec_l01Lay.l1 kj17 l0 x5_2 ((rd_T31 ((rd_T29 l0 0).f2) x5_2).f1) x145000_2 x146000_2 ((rd_T31 ((rd_T29 l0 0).f2) x5_2).f0) ((rd_T31 ((rd_T29 l0 0).f2) x5_2).f1) ((rd_T31 ((rd_T29 l0 0).f2) x5_2).f2) ((rd_T31 ((rd_T29 l0 0).f2) x5_2).f3)) = some (r1, r2) := by rw [if_neg (show ¬ (false = true) by decide)] at H; exact H
            clear H; have H := H1; clear H1; have H' := am_ H; clear H; have hnb44 := NB159_144.out; have hnc44 := NB144_159.out; have hnb45 := NB159_145.out; have hnc45 := NB145_159.out; have hcz46_0 : wc.cell? ⟨gb159, 0, none⟩ = some (.int .i8 ((rd_T31 ((rd_T29 l0 0).f2) x5_2).f0)) := (kC_ BK159.out 0).trans rfl; have hcz46_1 : wc.cell? ⟨gb159, 1, none⟩ = some (.int .i8 ((rd_T31 ((rd_T29 l0 0).f2) x5_2).f1)) := (kC_ BK159.out 1).trans rfl; have hcz46_2 : wc.cell? ⟨gb159, 2, none⟩ = some (.int .i8 ((rd_T31 ((rd_T29 l0 0).f2) x5_2).f2)) := (kC_ BK159.out 2).trans rfl; have hcz46_3 : wc.cell? ⟨gb159, 3, none⟩ = some (.int .i8 ((rd_T31 ((rd_T29 l0 0).f2) x5_2).f3)) := (kC_ BK159.out 3).trans rfl; have hfz46_0 := kF_ BK159.out 0; have hfz46_1 := kF_ BK159.out 1; have hfz46_2 := kF_ BK159.out 2; have hfz46_3 := kF_ BK159.out 3
            go_wp2
            go_loopg [7] kj17 (fun kq v7 w' => ∃ (x7_4 : Int) (x145000_4 : List Int) (x146000_4 : List Int), v7 = .int .i8 x7_4 ∧ Aside0 (spec_l01Lay.l1 kq l0 x5_2 x7_4 x145000_4 x146000_4 ((rd_T31 ((rd_T29 l0 0).f2) x5_2).f0) ((rd_T31 ((rd_T29 l0 0).f2) x5_2).f1) ((rd_T31 ((rd_T29 l0 0).f2) x5_2).f2) ((rd_T31 ((rd_T29 l0 0).f2) x5_2).f3) = some (r1, r2)) ∧ Aside0 (kq ≤ kj17) ∧ Aside0 (w'.heap[gb144]? = some (.cells (arrC .i64 x145000_4) 60 (0, 0))) ∧ Aside0 (w'.heap[gb145]? = some (.cells (arrC .i64 x146000_4) 60 (0, 0))) ∧ Aside0 (w'.heap[gb159]? = some (.cells #[.int .i8 ((rd_T31 ((rd_T29 l0 0).f2) x5_2).f0), .int .i8 ((rd_T31 ((rd_T29 l0 0).f2) x5_2).f1), .int .i8 ((rd_T31 ((rd_T29 l0 0).f2) x5_2).f2), .int .i8 ((rd_T31 ((rd_T29 l0 0).f2) x5_2).f3)] 31 (0, 0))) ∧ Aside0 (Below w.heap.size w w'))
            case atStart => exact ⟨(((rd_T31 ((rd_T29 l0 0).f2) x5_2).f1)), (x145000_2), (x146000_2), (by first | rfl | (simp; done) | (simp [*]; done)), H', ⟨Nat.le_refl _⟩, ⟨by (with_reducible repeat (first | apply kN_ | apply kD_ | apply kA_)); exact BK144.out⟩, ⟨by (with_reducible repeat (first | apply kN_ | apply kD_ | apply kA_)); exact BK145.out⟩, ⟨by (with_reducible repeat (first | apply kN_ | apply kD_ | apply kA_)); exact BK159.out⟩, ⟨by repeat (first | (with_reducible first | exact HB.out | apply bA_ | apply bN_ | apply bD_ | refine bS_ ?_ GE144.out | refine bS_ ?_ GE145.out | refine bS_ ?_ GE159.out) | exact HB.out)⟩⟩
            case round =>
             clear H'; (try clear c1); (try clear p1); (try clear q1); (try clear hx1); (try clear c2); (try clear p2); (try clear c4); (try clear c5); (try clear c16); (try clear p16); (try clear q16); (try clear hx16); (try clear c24); (try clear c25); (try clear c25b0); (try clear c27); (try clear c28); (try clear c40); (try clear c41); (try clear c41b0); (try clear c41b1); (try clear c42); (try clear c42b0); (try clear c42b1); (try clear c44); (try clear c45); (try clear hcz46_0); (try clear hcz46_1); (try clear hcz46_2); (try clear hcz46_3); (try clear hfz46_0); (try clear hfz46_1); (try clear hfz46_2); (try clear hfz46_3); (try clear hx161_0); (try clear hx161_1); (try clear hx161_2); (try clear hx162_0); (try clear hx162_1); (try clear hx162_2); (try clear hx163_0); (try clear hx163_1); (try clear hx163_2); (try clear hx163_3); (try clear p1); (try clear p16); (try clear p163); (try clear p2); (try clear q1); (try clear q16); (try clear q163); obtain ⟨x7_4, x145000_4, x146000_4, rfl, HA, HK4, BK144, BK145, BK159, HB⟩ := hrel
             cases gk with
             | zero => exact absurd HA.out (by simp [spec_l01Lay.l1])
             | succ k4 =>
              have H := HA.out; clear HA; simp only [spec_l01Lay.l1] at H
              by_cases c47 : x7_4 < (IntKind.i8.wrap (((rd_T31 ((rd_T29 l0 0).f2) x5_2).f1) + ((rd_T31 ((rd_T29 l0 0).f2) x5_2).f3)))
              ·
               rw [if_pos c47] at H; have c47b0 : decide (x7_4 < (IntKind.i8.wrap (((rd_T31 ((rd_T29 l0 0).f2) x5_2).f1) + ((rd_T31 ((rd_T29 l0 0).f2) x5_2).f3)))) = true := decide_eq_true c47; clear c47; have H' := am_ H; clear H; have hnb48 := NB159_144.out; have hnc48 := NB144_159.out; have hnb49 := NB159_145.out; have hnc49 := NB145_159.out; have hcz50_0 : wr.cell? ⟨gb159, 0, none⟩ = some (.int .i8 ((rd_T31 ((rd_T29 l0 0).f2) x5_2).f0)) := (kC_ BK159.out 0).trans rfl; have hcz50_1 : wr.cell? ⟨gb159, 1, none⟩ = some (.int .i8 ((rd_T31 ((rd_T29 l0 0).f2) x5_2).f1)) := (kC_ BK159.out 1).trans rfl; have hcz50_2 : wr.cell? ⟨gb159, 2, none⟩ = some (.int .i8 ((rd_T31 ((rd_T29 l0 0).f2) x5_2).f2)) := (kC_ BK159.out 2).trans rfl; have hcz50_3 : wr.cell? ⟨gb159, 3, none⟩ = some (.int .i8 ((rd_T31 ((rd_T29 l0 0).f2) x5_2).f3)) := (kC_ BK159.out 3).trans rfl; have hfz50_0 := kF_ BK159.out 0; have hfz50_1 := kF_ BK159.out 1; have hfz50_2 := kF_ BK159.out 2; have hfz50_3 := kF_ BK159.out 3
               go_wp2
               go_loopg [8] k4 (fun kq v8 w' => ∃ (x8_5 : Int) (x145000_5 : List Int) (x146000_5 : List Int), v8 = .int .i8 x8_5 ∧ Aside0 (spec_l01Lay.l2 kq l0 x5_2 x7_4 x8_5 x145000_5 x146000_5 ((rd_T31 ((rd_T29 l0 0).f2) x5_2).f0) ((rd_T31 ((rd_T29 l0 0).f2) x5_2).f1) ((rd_T31 ((rd_T29 l0 0).f2) x5_2).f2) ((rd_T31 ((rd_T29 l0 0).f2) x5_2).f3) = some (r1, r2)) ∧ Aside0 (kq ≤ k4) ∧ Aside0 (w'.heap[gb144]? = some (.cells (arrC .i64 x145000_5) 60 (0, 0))) ∧ Aside0 (w'.heap[gb145]? = some (.cells (arrC .i64 x146000_5) 60 (0, 0))) ∧ Aside0 (w'.heap[gb159]? = some (.cells #[.int .i8 ((rd_T31 ((rd_T29 l0 0).f2) x5_2).f0), .int .i8 ((rd_T31 ((rd_T29 l0 0).f2) x5_2).f1), .int .i8 ((rd_T31 ((rd_T29 l0 0).f2) x5_2).f2), .int .i8 ((rd_T31 ((rd_T29 l0 0).f2) x5_2).f3)] 31 (0, 0))) ∧ Aside0 (Below w.heap.size w w'))
               case atStart => exact ⟨(((rd_T31 ((rd_T29 l0 0).f2) x5_2).f0)), (x145000_4), (x146000_4), (by first | rfl | (simp; done) | (simp [*]; done)), H', ⟨Nat.le_refl _⟩, ⟨by (with_reducible repeat (first | apply kN_ | apply kD_ | apply kA_)); exact BK144.out⟩, ⟨by (with_reducible repeat (first | apply kN_ | apply kD_ | apply kA_)); exact BK145.out⟩, ⟨by (with_reducible repeat (first | apply kN_ | apply kD_ | apply kA_)); exact BK159.out⟩, ⟨by repeat (first | (with_reducible first | exact HB.out | apply bA_ | apply bN_ | apply bD_ | refine bS_ ?_ GE144.out | refine bS_ ?_ GE145.out | refine bS_ ?_ GE159.out) | exact HB.out)⟩⟩
               case round =>
                clear H'; (try clear c1); (try clear p1); (try clear q1); (try clear hx1); (try clear c2); (try clear p2); (try clear c4); (try clear c5); (try clear c16); (try clear p16); (try clear q16); (try clear hx16); (try clear c24); (try clear c25); (try clear c25b0); (try clear c27); (try clear c28); (try clear c40); (try clear c41); (try clear c41b0); (try clear c41b1); (try clear c42); (try clear c42b0); (try clear c42b1); (try clear c44); (try clear c45); (try clear c47); (try clear c47b0); (try clear c48); (try clear c49); (try clear c50); (try clear hcz46_0); (try clear hcz46_1); (try clear hcz46_2); (try clear hcz46_3); (try clear hcz50_0); (try clear hcz50_1); (try clear hcz50_2); (try clear hcz50_3); (try clear hfz46_0); (try clear hfz46_1); (try clear hfz46_2); (try clear hfz46_3); (try clear hfz50_0); (try clear hfz50_1); (try clear hfz50_2); (try clear hfz50_3); (try clear hx161_0); (try clear hx161_1); (try clear hx161_2); (try clear hx162_0); (try clear hx162_1); (try clear hx162_2); (try clear hx163_0); (try clear hx163_1); (try clear hx163_2); (try clear hx163_3); (try clear p1); (try clear p16); (try clear p163); (try clear p2); (try clear q1); (try clear q16); (try clear q163); obtain ⟨x8_5, x145000_5, x146000_5, rfl, HA, HK5, BK144, BK145, BK159, HB⟩ := hrel
                cases gk with
                | zero => exact absurd HA.out (by simp [spec_l01Lay.l2])
                | succ k5 =>
                 have H := HA.out; clear HA; simp only [spec_l01Lay.l2] at H
                 by_cases c51 : x8_5 < (IntKind.i8.wrap (((rd_T31 ((rd_T29 l0 0).f2) x5_2).f0) + ((rd_T31 ((rd_T29 l0 0).f2) x5_2).f2)))
                 ·
                  rw [if_pos c51] at H; have c51b0 : decide (x8_5 < (IntKind.i8.wrap (((rd_T31 ((rd_T29 l0 0).f2) x5_2).f0) + ((rd_T31 ((rd_T29 l0 0).f2) x5_2).f2)))) = true := decide_eq_true c51; clear c51
                  by_cases c52 : 0 ≤ x7_4
                  ·
                   rw [if_pos c52] at H; have c52b0 : decide (0 ≤ x7_4) = true := decide_eq_true c52; clear c52
                   by_cases c53 : x7_4 < 12
                   ·
                    rw [if_pos c53] at H; have c53b0 : decide (x7_4 < 12) = true := decide_eq_true c53; clear c53
                    by_cases c55 : 0 ≤ x8_5
                    ·
                     rw [if_pos c55] at H; have c55b0 : decide (0 ≤ x8_5) = true := decide_eq_true c55; clear c55
                     by_cases c56 : x8_5 < 12
                     ·
                      rw [if_pos c56] at H; have c56b0 : decide (x8_5 < 12) = true := decide_eq_true c56; clear c56
                      by_cases c58 : x7_4 * 12 + x8_5 < (x146000_5.length : Int)
                      ·
                       rw [if_pos c58] at H; have c58b0 := eq_true c58; have c58b1 : decide (x7_4 * 12 + x8_5 < (x146000_5.length : Int)) = true := decide_eq_true c58
                       by_cases c59 : (rd x146000_5 (x7_4 * 12 + x8_5)) = 0
                       ·
                        rw [if_pos c59] at H; have c59b0 : ((rd x146000_5 (x7_4 * 12 + x8_5)) == 0) = true := beq_iff_eq.mpr c59; have c59b1 : ((rd x146000_5 (x7_4 * 12 + x8_5)) != 0) = false := bne_eq_false_iff_eq.mpr c59; clear c59; obtain ⟨y165, hy165⟩ : ∃ y_ : List Int, y_ = (x146000_5.set (x7_4 * 12 + x8_5 : Int).toNat (wrap64 (x5_2 + 1))) := ⟨_, rfl⟩
                        replace H : (spec_l01Lay.l2 k5 l0 x5_2 x7_4 (IntKind.i8.wrap (x8_5 + 1)) x145000_5 y165 ((rd_T31 ((rd_T29 l0 0).f2) x5_2).f0) ((rd_T31 ((rd_T29 l0 0).f2) x5_2).f1) ((rd_T31 ((rd_T29 l0 0).f2) x5_2).f2) ((rd_T31 ((rd_T29 l0 0).f2) x5_2).f3)) = some (r1, r2) := by first | (rw [hy165]; with_reducible exact H) | (have H2_ := (Option.bind_some _ _).symm.trans H; rw [hy165]; with_reducible exact H2_) | (have H2_ := (Option.bind_some _ _).symm.trans H; with_reducible exact H2_) | with_reducible exact H | (rw [hy165]; exact H) | exact H
                        have Ny165 := am_ hy165; clear hy165; have H' := am_ H; clear H; have hnb62 := NB159_144.out; have hnc62 := NB144_159.out; have hnb63 := NB159_145.out; have hnc63 := NB145_159.out; have hcz64_0 : wr.cell? ⟨gb159, 0, none⟩ = some (.int .i8 ((rd_T31 ((rd_T29 l0 0).f2) x5_2).f0)) := (kC_ BK159.out 0).trans rfl; have hcz64_1 : wr.cell? ⟨gb159, 1, none⟩ = some (.int .i8 ((rd_T31 ((rd_T29 l0 0).f2) x5_2).f1)) := (kC_ BK159.out 1).trans rfl; have hcz64_2 : wr.cell? ⟨gb159, 2, none⟩ = some (.int .i8 ((rd_T31 ((rd_T29 l0 0).f2) x5_2).f2)) := (kC_ BK159.out 2).trans rfl; have hcz64_3 : wr.cell? ⟨gb159, 3, none⟩ = some (.int .i8 ((rd_T31 ((rd_T29 l0 0).f2) x5_2).f3)) := (kC_ BK159.out 3).trans rfl; have hfz64_0 := kF_ BK159.out 0; have hfz64_1 := kF_ BK159.out 1; have hfz64_2 := kF_ BK159.out 2; have hfz64_3 := kF_ BK159.out 3; have p54 : 0 ≤ (x7_4 : Int) := od_ (by first | (with_reducible assumption) | assumption); have q54 : (x7_4 : Int) < (12 : Int) := od_ (by first | (with_reducible assumption) | assumption); replace p54 := eq_true p54; replace q54 := eq_true q54; have p57 : 0 ≤ (x8_5 : Int) := od_ (by first | (with_reducible assumption) | assumption); have q57 : (x8_5 : Int) < (12 : Int) := od_ (by first | (with_reducible assumption) | assumption); replace p57 := eq_true p57; replace q57 := eq_true q57; have haz65 : wr.cell? ⟨gb145, x7_4.toNat * 12 + x8_5.toNat, none⟩ = some (.int .i64 (rd x146000_5 (x7_4 * 12 + x8_5))) := arr_cell (by (with_reducible repeat (first | apply kN_ | apply kD_ | apply kA_)); exact BK145.out) (x7_4 * 12 + x8_5) _ (by have h0_ : (0 : Int) ≤ x7_4 := od_ (by first | (with_reducible assumption) | assumption); have h1_ : (0 : Int) ≤ x8_5 := od_ (by first | (with_reducible assumption) | assumption); omega) (od_ (by first | (with_reducible assumption) | assumption)); have p60 : 0 ≤ (x7_4 : Int) := od_ (by first | (with_reducible assumption) | assumption); have q60 : (x7_4 : Int) < (12 : Int) := od_ (by first | (with_reducible assumption) | assumption); replace p60 := eq_true p60; replace q60 := eq_true q60; have p61 : 0 ≤ (x8_5 : Int) := od_ (by first | (with_reducible assumption) | assumption); have q61 : (x8_5 : Int) < (12 : Int) := od_ (by first | (with_reducible assumption) | assumption); replace p61 := eq_true p61; replace q61 := eq_true q61
                        go_wp2_with (first | ((with_reducible refine gate_store (t := 2) (p := 107) rfl ?_); refine arr_put (te := 2) (p := 107) (v := ?vv_w66) (j := ?jj_w66) (k := .i64) ?hg ?hn ?ho (i := (x7_4 * 12 + x8_5)) (l := x146000_5) (g := gb145) (x := (wrap64 (x5_2 + 1))) ?hp (by (with_reducible repeat (first | apply kN_ | apply kD_ | apply kA_)); exact BK145.out) ?hj (od_ (by first | (with_reducible assumption) | assumption)) ?hr ?_; (case ho => rfl); (case hg => rfl); (case hn => rfl); (case hp => rfl); (case hj => have h0_ : (0 : Int) ≤ x7_4 := od_ (by first | (with_reducible assumption) | assumption); have h1_ : (0 : Int) ≤ x8_5 := od_ (by first | (with_reducible assumption) | assumption); omega); (case hr => intro hcell_ hfroz_; first | (go_simp; done) | (go_simp; rfl)); intro w66 hg hx; rw [← Ny165.out] at hx; have n0_ := am_ (blk_grown (g := gb144) (o := .cells (arrC .i64 x145000_5) 60 (0, 0)) (by (with_reducible repeat (first | apply kN_ | apply kD_ | apply kA_)); exact BK144.out) hg (fun e_ => NB144_145.out (Option.some.inj e_))); have n1_ := am_ (hx); have n2_ := am_ (blk_grown (g := gb159) (o := .cells #[.int .i8 ((rd_T31 ((rd_T29 l0 0).f2) x5_2).f0), .int .i8 ((rd_T31 ((rd_T29 l0 0).f2) x5_2).f1), .int .i8 ((rd_T31 ((rd_T29 l0 0).f2) x5_2).f2), .int .i8 ((rd_T31 ((rd_T29 l0 0).f2) x5_2).f3)] 31 (0, 0)) (by (with_reducible repeat (first | apply kN_ | apply kD_ | apply kA_)); exact BK159.out) hg (fun e_ => NB159_145.out (Option.some.inj e_))); have n3_ := am_ (Below.grown (by repeat (first | (with_reducible first | exact HB.out | apply bA_ | apply bN_ | apply bD_ | refine bS_ ?_ GE144.out | refine bS_ ?_ GE145.out | refine bS_ ?_ GE159.out) | exact HB.out)) hg (bZ_ (by repeat (first | (with_reducible first | exact HB.out | apply bA_ | apply bN_ | apply bD_ | refine bS_ ?_ GE144.out | refine bS_ ?_ GE145.out | refine bS_ ?_ GE159.out) | exact HB.out))) (fun k_ e_ => by cases e_; exact GE145.out)); clear BK144; clear BK145; clear BK159; clear HB; have BK144 := n0_; have BK145 := n1_; have BK159 := n2_; have HB := n3_; clear n0_ n1_ n2_ n3_; clear hg hx))
                        go_roundg k5
                        case measure => have := HJ1.out; have := HK2.out; have := HJ17.out; have := HK4.out; have := HK5.out; omega
                        case rel => exact ⟨(IntKind.i8.wrap (x8_5 + 1)), (x145000_5), (y165), (by first | rfl | (simp; done) | (simp [*]; done)), H', ⟨by have := HJ1.out; have := HK2.out; have := HJ17.out; have := HK4.out; have := HK5.out; omega⟩, ⟨by (with_reducible repeat (first | apply kN_ | apply kD_ | apply kA_)); exact BK144.out⟩, ⟨by (with_reducible repeat (first | apply kN_ | apply kD_ | apply kA_)); exact BK145.out⟩, ⟨by (with_reducible repeat (first | apply kN_ | apply kD_ | apply kA_)); exact BK159.out⟩, ⟨by repeat (first | (with_reducible first | exact HB.out | apply bA_ | apply bN_ | apply bD_ | refine bS_ ?_ GE144.out | refine bS_ ?_ GE145.out | refine bS_ ?_ GE159.out) | exact HB.out)⟩⟩
                       ·
                        rw [if_neg c59] at H; have c59b0 : ((rd x146000_5 (x7_4 * 12 + x8_5)) == 0) = false := beq_eq_false_iff_ne.mpr c59; have c59b1 : ((rd x146000_5 (x7_4 * 12 + x8_5)) != 0) = true := bne_iff_ne.mpr c59
                        by_cases c67 : x146000_5.length = 144
                        ·
                         rw [if_pos c67] at H; have c67b0 := eq_true c67; have c67b1 : decide (x146000_5.length = 144) = true := decide_eq_true c67; clear c67
                         by_cases c68 : x145000_5.length = 144
                         ·
                          rw [if_pos c68] at H; have c68b0 := eq_true c68; have c68b1 : decide (x145000_5.length = 144) = true := decide_eq_true c68; clear c68; simp only [Option.some.injEq, Prod.mk.injEq] at H; obtain ⟨rfl, rfl⟩ := H; have hnb69 := NB159_144.out; have hnc69 := NB144_159.out; have hnb70 := NB159_145.out; have hnc70 := NB145_159.out; have hcz71_0 : wr.cell? ⟨gb159, 0, none⟩ = some (.int .i8 ((rd_T31 ((rd_T29 l0 0).f2) x5_2).f0)) := (kC_ BK159.out 0).trans rfl; have hcz71_1 : wr.cell? ⟨gb159, 1, none⟩ = some (.int .i8 ((rd_T31 ((rd_T29 l0 0).f2) x5_2).f1)) := (kC_ BK159.out 1).trans rfl; have hcz71_2 : wr.cell? ⟨gb159, 2, none⟩ = some (.int .i8 ((rd_T31 ((rd_T29 l0 0).f2) x5_2).f2)) := (kC_ BK159.out 2).trans rfl; have hcz71_3 : wr.cell? ⟨gb159, 3, none⟩ = some (.int .i8 ((rd_T31 ((rd_T29 l0 0).f2) x5_2).f3)) := (kC_ BK159.out 3).trans rfl; have hfz71_0 := kF_ BK159.out 0; have hfz71_1 := kF_ BK159.out 1; have hfz71_2 := kF_ BK159.out 2; have hfz71_3 := kF_ BK159.out 3; have p54 : 0 ≤ (x7_4 : Int) := od_ (by first | (with_reducible assumption) | assumption); have q54 : (x7_4 : Int) < (12 : Int) := od_ (by first | (with_reducible assumption) | assumption); replace p54 := eq_true p54; replace q54 := eq_true q54; have p57 : 0 ≤ (x8_5 : Int) := od_ (by first | (with_reducible assumption) | assumption); have q57 : (x8_5 : Int) < (12 : Int) := od_ (by first | (with_reducible assumption) | assumption); replace p57 := eq_true p57; replace q57 := eq_true q57; have haz72 : wr.cell? ⟨gb145, x7_4.toNat * 12 + x8_5.toNat, none⟩ = some (.int .i64 (rd x146000_5 (x7_4 * 12 + x8_5))) := arr_cell (by (with_reducible repeat (first | apply kN_ | apply kD_ | apply kA_)); exact BK145.out) (x7_4 * 12 + x8_5) _ (by have h0_ : (0 : Int) ≤ x7_4 := od_ (by first | (with_reducible assumption) | assumption); have h1_ : (0 : Int) ≤ x8_5 := od_ (by first | (with_reducible assumption) | assumption); omega) (od_ (by first | (with_reducible assumption) | assumption))
                          go_wp2_with (first | ((with_reducible refine gate_dst (N := 101) rfl ?_); (try (refine gate_guard (by rfl) ?_; dsimp only)); refine arr_load (p := 4) (n := 144) (k := .i64) (g := gb145) (l := x146000_5) ?hg (N := 101) ?hd (t := 60) ?ho ?hp (by (with_reducible repeat (first | apply kN_ | apply kD_ | apply kA_)); exact BK145.out) Try.underlying60 (by kernel_rfl) (od_ (by first | (with_reducible assumption) | assumption)) ?_; (case hd => rfl); (case hg => rfl); (case ho => rfl); (case hp => rfl)) | ((with_reducible refine gate_store (t := 60) (p := 2) rfl ?_); refine arr_store (p := 2) (v := ?vv_w73) (n := 144) (k := .i64) (g := gb144) (l := x145000_5) (l2 := x146000_5) ?hg ?hn (t := 60) ?ho ?hp ?hv (by (with_reducible repeat (first | apply kN_ | apply kD_ | apply kA_)); exact BK144.out) (by kernel_rfl) (od_ (by first | (with_reducible assumption) | assumption)) (od_ (by first | (with_reducible assumption) | assumption)) ?_; (case ho => rfl); (case hg => rfl); (case hn => rfl); (case hp => rfl); (case hv => rfl); intro w73 hg hx; have n0_ := am_ (hx); have n1_ := am_ (blk_grown (g := gb145) (o := .cells (arrC .i64 x146000_5) 60 (0, 0)) (by (with_reducible repeat (first | apply kN_ | apply kD_ | apply kA_)); exact BK145.out) hg (fun e_ => NB145_144.out (Option.some.inj e_))); have n2_ := am_ (blk_grown (g := gb159) (o := .cells #[.int .i8 ((rd_T31 ((rd_T29 l0 0).f2) x5_2).f0), .int .i8 ((rd_T31 ((rd_T29 l0 0).f2) x5_2).f1), .int .i8 ((rd_T31 ((rd_T29 l0 0).f2) x5_2).f2), .int .i8 ((rd_T31 ((rd_T29 l0 0).f2) x5_2).f3)] 31 (0, 0)) (by (with_reducible repeat (first | apply kN_ | apply kD_ | apply kA_)); exact BK159.out) hg (fun e_ => NB159_144.out (Option.some.inj e_))); have n3_ := am_ (Below.grown (by repeat (first | (with_reducible first | exact HB.out | apply bA_ | apply bN_ | apply bD_ | refine bS_ ?_ GE144.out | refine bS_ ?_ GE145.out | refine bS_ ?_ GE159.out) | exact HB.out)) hg (bZ_ (by repeat (first | (with_reducible first | exact HB.out | apply bA_ | apply bN_ | apply bD_ | refine bS_ ?_ GE144.out | refine bS_ ?_ GE145.out | refine bS_ ?_ GE159.out) | exact HB.out))) (fun k_ e_ => by cases e_; exact GE144.out)); clear BK144; clear BK145; clear BK159; clear HB; have BK144 := n0_; have BK145 := n1_; have BK159 := n2_; have HB := n3_; clear n0_ n1_ n2_ n3_; clear hg hx))
                          refine bodyPost_ret (results_ct rfl _ _ gb144 60 (arrC .i64 x146000_5) (0, 0) _ rfl (by (with_reducible repeat (first | apply kN_ | apply kD_ | apply kA_)); exact BK144.out) Try.underlying60 rfl (by first | (rw [arrC_size, (od_ (by first | (with_reducible assumption) | assumption) : x146000_5.length = 144)]; kernel_rfl) | kernel_rfl)) rfl ?_; exact ⟨by first | rfl | (simp [errW_none, errW_some] <;> rfl) | (simp [*, errW_none, errW_some] <;> rfl), by repeat (first | (with_reducible first | exact HB.out | apply bA_ | apply bN_ | apply bD_ | refine bS_ ?_ GE144.out | refine bS_ ?_ GE145.out | refine bS_ ?_ GE159.out) | exact HB.out)⟩
                         ·
                          rw [if_neg c68] at H; exact absurd H (by simp)
                        ·
                         rw [if_neg c67] at H; exact absurd H (by simp)
                      ·
                       rw [if_neg c58] at H; exact absurd H (by simp)
                     ·
                      rw [if_neg c56] at H; exact absurd H (by simp)
                    ·
                     rw [if_neg c55] at H; exact absurd H (by simp)
                   ·
                    rw [if_neg c53] at H; exact absurd H (by simp)
                  ·
                   rw [if_neg c52] at H; exact absurd H (by simp)
                 ·
                  rw [if_neg c51] at H; have c51b0 : decide (x8_5 < (IntKind.i8.wrap (((rd_T31 ((rd_T29 l0 0).f2) x5_2).f0) + ((rd_T31 ((rd_T29 l0 0).f2) x5_2).f2)))) = false := decide_eq_false c51; clear c51; have H' := am_ H; clear H; have hnb74 := NB159_144.out; have hnc74 := NB144_159.out; have hnb75 := NB159_145.out; have hnc75 := NB145_159.out; have hcz76_0 : wr.cell? ⟨gb159, 0, none⟩ = some (.int .i8 ((rd_T31 ((rd_T29 l0 0).f2) x5_2).f0)) := (kC_ BK159.out 0).trans rfl; have hcz76_1 : wr.cell? ⟨gb159, 1, none⟩ = some (.int .i8 ((rd_T31 ((rd_T29 l0 0).f2) x5_2).f1)) := (kC_ BK159.out 1).trans rfl; have hcz76_2 : wr.cell? ⟨gb159, 2, none⟩ = some (.int .i8 ((rd_T31 ((rd_T29 l0 0).f2) x5_2).f2)) := (kC_ BK159.out 2).trans rfl; have hcz76_3 : wr.cell? ⟨gb159, 3, none⟩ = some (.int .i8 ((rd_T31 ((rd_T29 l0 0).f2) x5_2).f3)) := (kC_ BK159.out 3).trans rfl; have hfz76_0 := kF_ BK159.out 0; have hfz76_1 := kF_ BK159.out 1; have hfz76_2 := kF_ BK159.out 2; have hfz76_3 := kF_ BK159.out 3
                  go_wp2
                  go_roundg k5
                  case measure => have := HJ1.out; have := HK2.out; have := HJ17.out; have := HK4.out; have := HK5.out; omega
                  case rel => exact ⟨(IntKind.i8.wrap (x7_4 + 1)), (x145000_5), (x146000_5), (by first | rfl | (simp; done) | (simp [*]; done)), H', ⟨by have := HJ1.out; have := HK2.out; have := HJ17.out; have := HK4.out; have := HK5.out; omega⟩, ⟨by (with_reducible repeat (first | apply kN_ | apply kD_ | apply kA_)); exact BK144.out⟩, ⟨by (with_reducible repeat (first | apply kN_ | apply kD_ | apply kA_)); exact BK145.out⟩, ⟨by (with_reducible repeat (first | apply kN_ | apply kD_ | apply kA_)); exact BK159.out⟩, ⟨by repeat (first | (with_reducible first | exact HB.out | apply bA_ | apply bN_ | apply bD_ | refine bS_ ?_ GE144.out | refine bS_ ?_ GE145.out | refine bS_ ?_ GE159.out) | exact HB.out)⟩⟩
              ·
               rw [if_neg c47] at H; have c47b0 : decide (x7_4 < (IntKind.i8.wrap (((rd_T31 ((rd_T29 l0 0).f2) x5_2).f1) + ((rd_T31 ((rd_T29 l0 0).f2) x5_2).f3)))) = false := decide_eq_false c47; clear c47; have H' := am_ H; clear H; have hnb77 := NB159_144.out; have hnc77 := NB144_159.out; have hnb78 := NB159_145.out; have hnc78 := NB145_159.out; have hcz79_0 : wr.cell? ⟨gb159, 0, none⟩ = some (.int .i8 ((rd_T31 ((rd_T29 l0 0).f2) x5_2).f0)) := (kC_ BK159.out 0).trans rfl; have hcz79_1 : wr.cell? ⟨gb159, 1, none⟩ = some (.int .i8 ((rd_T31 ((rd_T29 l0 0).f2) x5_2).f1)) := (kC_ BK159.out 1).trans rfl; have hcz79_2 : wr.cell? ⟨gb159, 2, none⟩ = some (.int .i8 ((rd_T31 ((rd_T29 l0 0).f2) x5_2).f2)) := (kC_ BK159.out 2).trans rfl; have hcz79_3 : wr.cell? ⟨gb159, 3, none⟩ = some (.int .i8 ((rd_T31 ((rd_T29 l0 0).f2) x5_2).f3)) := (kC_ BK159.out 3).trans rfl; have hfz79_0 := kF_ BK159.out 0; have hfz79_1 := kF_ BK159.out 1; have hfz79_2 := kF_ BK159.out 2; have hfz79_3 := kF_ BK159.out 3
               go_wp2
               go_roundg k4
               case measure => have := HJ1.out; have := HK2.out; have := HJ17.out; have := HK4.out; omega
               case rel => exact ⟨(wrap64 (x5_2 + 1)), (x145000_4), (x146000_4), (by first | rfl | (simp; done) | (simp [*]; done)), H', ⟨by have := HJ1.out; have := HK2.out; have := HJ17.out; have := HK4.out; omega⟩, ⟨by (with_reducible repeat (first | apply kN_ | apply kD_ | apply kA_)); exact BK144.out⟩, ⟨by (with_reducible repeat (first | apply kN_ | apply kD_ | apply kA_)); exact BK145.out⟩, ⟨by repeat (first | (with_reducible first | exact HB.out | apply bA_ | apply bN_ | apply bD_ | refine bS_ ?_ GE144.out | refine bS_ ?_ GE145.out | refine bS_ ?_ GE159.out) | exact HB.out)⟩⟩
        ·
         rw [if_neg c17] at H; exact absurd H (by simp)
       ·
        rw [if_neg c16] at H; have c16b0 : decide (x5_2 < (((rd_T29 l0 0).f2).length : Int)) = false := decide_eq_false c16; clear c16
        by_cases c80 : x146000_2.length = 144
        ·
         rw [if_pos c80] at H; have c80b0 := eq_true c80; have c80b1 : decide (x146000_2.length = 144) = true := decide_eq_true c80; clear c80
         by_cases c81 : x145000_2.length = 144
         ·
          rw [if_pos c81] at H; have c81b0 := eq_true c81; have c81b1 : decide (x145000_2.length = 144) = true := decide_eq_true c81; clear c81; simp only [Option.some.injEq, Prod.mk.injEq] at H; obtain ⟨rfl, rfl⟩ := H; have p154 : 0 ≤ (0 : Int) := (by omega)
          have q154 : 0 < (l0.length : Int) := od_ (by first | (with_reducible assumption) | assumption); obtain ⟨ad154, A154_2, c154_2, e154, hx154_0, hx154_1, hx154_2, hl154_2, hi154_2⟩ := at_T29 HR0.out 0 p154 q154
          cases e154
          have qi154 : (0 < l0.length) = True := eq_true (by omega); (try rw [show ((0 : Int)).toNat = 0 from rfl] at hx154_0); (try rw [show 0 * 3 = 0 from rfl] at hx154_0); (try rw [Addr.add_zero'] at hx154_0); (try rw [show ((0 : Int)).toNat = 0 from rfl] at hx154_1); (try rw [show 0 * 3 = 0 from rfl] at hx154_1); (try rw [Addr.add_zero'] at hx154_1); (try rw [show ((0 : Int)).toNat = 0 from rfl] at hx154_2); (try rw [show 0 * 3 = 0 from rfl] at hx154_2); (try rw [Addr.add_zero'] at hx154_2); replace hx154_0 := (HB.out.cell (bl_ w _ hx154_0)).trans hx154_0; replace hx154_1 := (HB.out.cell (bl_ w _ hx154_1)).trans hx154_1; replace hx154_2 := (HB.out.cell (bl_ w _ hx154_2)).trans hx154_2; have HR154_2 := am_ hi154_2; have HC154_2 := am_ hl154_2; clear hi154_2 hl154_2; replace p154 := eq_true p154; replace q154 := eq_true q154; have p155 : 0 ≤ (0 : Int) := (by omega)
          have q155 : 0 < (l0.length : Int) := od_ (by first | (with_reducible assumption) | assumption); obtain ⟨ad155, A155_2, c155_2, e155, hx155_0, hx155_1, hx155_2, hl155_2, hi155_2⟩ := at_T29 HR0.out 0 p155 q155; obtain rfl : ad154 = ad155 := (by injection e155)
          have qi155 : (0 < l0.length) = True := eq_true (by omega); (try rw [show ((0 : Int)).toNat = 0 from rfl] at hx155_0); (try rw [show 0 * 3 = 0 from rfl] at hx155_0); (try rw [Addr.add_zero'] at hx155_0); (try rw [show ((0 : Int)).toNat = 0 from rfl] at hx155_1); (try rw [show 0 * 3 = 0 from rfl] at hx155_1); (try rw [Addr.add_zero'] at hx155_1); (try rw [show ((0 : Int)).toNat = 0 from rfl] at hx155_2); (try rw [show 0 * 3 = 0 from rfl] at hx155_2); (try rw [Addr.add_zero'] at hx155_2); replace hx155_0 := (HB.out.cell (bl_ w _ hx155_0)).trans hx155_0; replace hx155_1 := (HB.out.cell (bl_ w _ hx155_1)).trans hx155_1; replace hx155_2 := (HB.out.cell (bl_ w _ hx155_2)).trans hx155_2; have HR155_2 := am_ hi155_2; have HC155_2 := am_ hl155_2; clear hi155_2 hl155_2; replace p155 := eq_true p155; replace q155 := eq_true q155; have ea_ := Option.some.inj (hx154_2.symm.trans hx155_2)
          injection ea_ with ea_ en_ ec_
          subst ea_; subst ec_; clear en_
          go_wp2_with (first | ((with_reducible refine gate_dst (N := 108) rfl ?_); (try (refine gate_guard (by rfl) ?_; dsimp only)); refine arr_load (p := 4) (n := 144) (k := .i64) (g := gb145) (l := x146000_2) ?hg (N := 108) ?hd (t := 60) ?ho ?hp (by (with_reducible repeat (first | apply kN_ | apply kD_ | apply kA_)); exact BK145.out) Try.underlying60 (by kernel_rfl) (od_ (by first | (with_reducible assumption) | assumption)) ?_; (case hd => rfl); (case hg => rfl); (case ho => rfl); (case hp => rfl)) | ((with_reducible refine gate_store (t := 60) (p := 2) rfl ?_); refine arr_store (p := 2) (v := ?vv_w82) (n := 144) (k := .i64) (g := gb144) (l := x145000_2) (l2 := x146000_2) ?hg ?hn (t := 60) ?ho ?hp ?hv (by (with_reducible repeat (first | apply kN_ | apply kD_ | apply kA_)); exact BK144.out) (by kernel_rfl) (od_ (by first | (with_reducible assumption) | assumption)) (od_ (by first | (with_reducible assumption) | assumption)) ?_; (case ho => rfl); (case hg => rfl); (case hn => rfl); (case hp => rfl); (case hv => rfl); intro w82 hg hx; have n0_ := am_ (hx); have n1_ := am_ (blk_grown (g := gb145) (o := .cells (arrC .i64 x146000_2) 60 (0, 0)) (by (with_reducible repeat (first | apply kN_ | apply kD_ | apply kA_)); exact BK145.out) hg (fun e_ => NB145_144.out (Option.some.inj e_))); have n2_ := am_ (Below.grown (by repeat (first | (with_reducible first | exact HB.out | apply bA_ | apply bN_ | apply bD_ | refine bS_ ?_ GE144.out | refine bS_ ?_ GE145.out) | exact HB.out)) hg (bZ_ (by repeat (first | (with_reducible first | exact HB.out | apply bA_ | apply bN_ | apply bD_ | refine bS_ ?_ GE144.out | refine bS_ ?_ GE145.out) | exact HB.out))) (fun k_ e_ => by cases e_; exact GE144.out)); clear BK144; clear BK145; clear HB; have BK144 := n0_; have BK145 := n1_; have HB := n2_; clear n0_ n1_ n2_; clear hg hx))
          refine bodyPost_ret (results_ct rfl _ _ gb144 60 (arrC .i64 x146000_2) (0, 0) _ rfl (by (with_reducible repeat (first | apply kN_ | apply kD_ | apply kA_)); exact BK144.out) Try.underlying60 rfl (by first | (rw [arrC_size, (od_ (by first | (with_reducible assumption) | assumption) : x146000_2.length = 144)]; kernel_rfl) | kernel_rfl)) rfl ?_; exact ⟨by first | rfl | (simp [errW_none, errW_some] <;> rfl) | (simp [*, errW_none, errW_some] <;> rfl), by repeat (first | (with_reducible first | exact HB.out | apply bA_ | apply bN_ | apply bD_ | refine bS_ ?_ GE144.out | refine bS_ ?_ GE145.out) | exact HB.out)⟩
         ·
          rw [if_neg c81] at H; exact absurd H (by simp)
        ·
         rw [if_neg c80] at H; exact absurd H (by simp)
      ·
       rw [if_neg c15] at H; exact absurd H (by simp)
end Go.Proofs.Ytgpfjmkmopjfbaa.Q
