-- Trimmed by a program of this session's.
import Derived.Test.YtgpfjmkmopjfbaaXQ0
import Derived.Test.YtgpfjmkmopjfbaaXQ4
import Derived.Test.YtgpfjmkmopjfbaaXQ5
namespace Go.Proofs.Ytgpfjmkmopjfbaa.Q
open Go.RowKit Go.Proofs.YtgpfjmkmopjfbaaW.PrintWords Go.Proofs.YtgpfjmkmopjfbaaW.PrintLast Go.Proofs.YtgpfjmkmopjfbaaW.PrintMore
attribute [local go_sem] max2_int min2_int max_two min_two max_three min_three max_four min_four
set_option linter.unusedVariables false
set_option linter.unusedSimpArgs false
mutual
def spec_CrossesIn.l0 : Nat → List (S66) → Int → Int → Int → List (S31) → List Int → Option ((List (S66)) × Int)
 | 0, _, _, _, _, _, _ => none
 | k + 1, x6, x7, x171000, x171001, x171002, x178000 => if x7 < x171001 then (spec_CrossesIn.l1 k x6 x7 1 x171000 x171001 x171002 x178000) else (some (x6, 0))
def spec_CrossesIn.l1 : Nat → List (S66) → Int → Int → Int → Int → List (S31) → List Int → Option ((List (S66)) × Int)
 | 0, _, _, _, _, _, _, _ => none
 | k + 1, x6, x7, x8, x171000, x171001, x171002, x178000 => if x8 < x171000 then (if 0 ≤ (IntKind.i8.wrap (x7 - 1)) then (if (IntKind.i8.wrap (x7 - 1)) < 12 then (if 0 ≤ (IntKind.i8.wrap (x8 - 1)) then (if (IntKind.i8.wrap (x8 - 1)) < 12 then (if (IntKind.i8.wrap (x7 - 1)) * 12 + (IntKind.i8.wrap (x8 - 1)) < (x178000.length : Int) then (if 0 ≤ x8 then (if x8 < 12 then (if (IntKind.i8.wrap (x7 - 1)) * 12 + x8 < (x178000.length : Int) then (if 0 ≤ x7 then (if x7 < 12 then (if x7 * 12 + (IntKind.i8.wrap (x8 - 1)) < (x178000.length : Int) then (if x7 * 12 + x8 < (x178000.length : Int) then (spec_CrossesIn.l2 k x6 x7 x8 (([rd x178000 ((IntKind.i8.wrap (x7 - 1)) * 12 + (IntKind.i8.wrap (x8 - 1))), rd x178000 ((IntKind.i8.wrap (x7 - 1)) * 12 + x8), rd x178000 (x7 * 12 + (IntKind.i8.wrap (x8 - 1))), rd x178000 (x7 * 12 + x8)] : List Int)) true 0 x171000 x171001 x171002 x178000) else (none)) else (none)) else (none)) else (none)) else (none)) else (none)) else (none)) else (none)) else (none)) else (none)) else (none)) else (none)) else (spec_CrossesIn.l0 k x6 (IntKind.i8.wrap (x7 + 1)) x171000 x171001 x171002 x178000)
def spec_CrossesIn.l2 : Nat → List (S66) → Int → Int → List Int → Bool → Int → Int → Int → List (S31) → List Int → Option ((List (S66)) × Int)
 | 0, _, _, _, _, _, _, _, _, _, _ => none
 | k + 1, x6, x7, x8, x9, x10, x11, x171000, x171001, x171002, x178000 => if x11 < 4 then (if x10 = true then (if 0 ≤ x11 then (if x11 < (x9.length : Int) then (if (rd x9 x11) = 0 then (spec_CrossesIn.l2 k x6 x7 x8 x9 false (wrap64 (x11 + 1)) x171000 x171001 x171002 x178000) else (if x11 ≤ (x9.length : Int) then ((spec_l00Has.f k (x9.take (x11 : Int).toNat) (rd x9 x11)).bind fun t190 => (spec_CrossesIn.l2 k x6 x7 x8 x9 (!t190) (wrap64 (x11 + 1)) x171000 x171001 x171002 x178000)) else (none))) else (none)) else (none)) else (spec_CrossesIn.l2 k x6 x7 x8 x9 false (wrap64 (x11 + 1)) x171000 x171001 x171002 x178000)) else (if x10 = true then (if x6.length < 70368744177664 then (spec_CrossesIn.l1 k (x6 ++ [(⟨x8, x7⟩ : S66)]) x7 (IntKind.i8.wrap (x8 + 1)) x171000 x171001 x171002 x178000) else (none)) else (spec_CrossesIn.l1 k x6 x7 (IntKind.i8.wrap (x8 + 1)) x171000 x171001 x171002 x178000))
end
def spec_CrossesIn.f (k : Nat) (a0_0 : Int) (a0_1 : Int) (l0_2 : List (S31)) : Option ((List (S66)) × Int) := (spec_l01Ok.f k [(⟨a0_0, a0_1, l0_2⟩ : S29)]).bind fun t171 => (if t171 = true then ((spec_l01Lay.f k [(⟨a0_0, a0_1, l0_2⟩ : S29)]).bind fun bt175 => (if bt175.1.length = 144 then (spec_CrossesIn.l0 k (([] : List (S66))) 1 a0_0 a0_1 l0_2 bt175.1) else (none))) else (some ((([] : List (S66))), 1)))
theorem spec_CrossesIn.mono_l : ∀ k, (∀ y0 y1 y2 y3 y4 y5, LeO (spec_CrossesIn.l0 k y0 y1 y2 y3 y4 y5) (spec_CrossesIn.l0 (k + 1) y0 y1 y2 y3 y4 y5)) ∧ (∀ y0 y1 y2 y3 y4 y5 y6, LeO (spec_CrossesIn.l1 k y0 y1 y2 y3 y4 y5 y6) (spec_CrossesIn.l1 (k + 1) y0 y1 y2 y3 y4 y5 y6)) ∧ (∀ y0 y1 y2 y3 y4 y5 y6 y7 y8 y9, LeO (spec_CrossesIn.l2 k y0 y1 y2 y3 y4 y5 y6 y7 y8 y9) (spec_CrossesIn.l2 (k + 1) y0 y1 y2 y3 y4 y5 y6 y7 y8 y9))
 | 0 => ⟨fun _ _ _ _ _ _ r h => by simp [spec_CrossesIn.l0] at h, fun _ _ _ _ _ _ _ r h => by simp [spec_CrossesIn.l1] at h, fun _ _ _ _ _ _ _ _ _ _ r h => by simp [spec_CrossesIn.l2] at h⟩
 | k + 1 => by
  obtain ⟨ih0, ih1, ih2⟩ := spec_CrossesIn.mono_l k; refine ⟨?_, ?_, ?_⟩
  ·
   intro y0 y1 y2 y3 y4 y5
   unfold spec_CrossesIn.l0
   repeat' first
   | (with_reducible exact ih0 _ _ _ _ _ _)
   | (with_reducible exact ih1 _ _ _ _ _ _ _)
   | (with_reducible exact ih2 _ _ _ _ _ _ _ _ _ _)
   | (with_reducible exact spec_l00Has.mono _ _ _)
   | (with_reducible exact spec_l01Lay.mono _ _)
   | (with_reducible exact spec_l01Ok.mono _ _)
   | (with_reducible exact LeO.refl _)
   | (with_reducible exact LeO.none _)
   | (with_reducible refine LeO.ite ?_ ?_)
   | (with_reducible refine LeO.bind ?_ (fun _ => ?_))
   | exact ih0 _ _ _ _ _ _
   | exact ih1 _ _ _ _ _ _ _
   | exact ih2 _ _ _ _ _ _ _ _ _ _
   | exact spec_l00Has.mono _ _ _
   | exact spec_l01Lay.mono _ _
   | exact spec_l01Ok.mono _ _
   | exact LeO.none _
   | refine LeO.ite ?_ ?_
   | refine LeO.bind ?_ (fun _ => ?_)
  ·
   intro y0 y1 y2 y3 y4 y5 y6
   unfold spec_CrossesIn.l1
   repeat' first
   | (with_reducible exact ih0 _ _ _ _ _ _)
   | (with_reducible exact ih1 _ _ _ _ _ _ _)
   | (with_reducible exact ih2 _ _ _ _ _ _ _ _ _ _)
   | (with_reducible exact spec_l00Has.mono _ _ _)
   | (with_reducible exact spec_l01Lay.mono _ _)
   | (with_reducible exact spec_l01Ok.mono _ _)
   | (with_reducible exact LeO.refl _)
   | (with_reducible exact LeO.none _)
   | (with_reducible refine LeO.ite ?_ ?_)
   | (with_reducible refine LeO.bind ?_ (fun _ => ?_))
   | exact ih0 _ _ _ _ _ _
   | exact ih1 _ _ _ _ _ _ _
   | exact ih2 _ _ _ _ _ _ _ _ _ _
   | exact spec_l00Has.mono _ _ _
   | exact spec_l01Lay.mono _ _
   | exact spec_l01Ok.mono _ _
   | exact LeO.none _
   | refine LeO.ite ?_ ?_
   | refine LeO.bind ?_ (fun _ => ?_)
  ·
   intro y0 y1 y2 y3 y4 y5 y6 y7 y8 y9
   unfold spec_CrossesIn.l2
   repeat' first
   | (with_reducible exact ih0 _ _ _ _ _ _)
   | (with_reducible exact ih1 _ _ _ _ _ _ _)
   | (with_reducible exact ih2 _ _ _ _ _ _ _ _ _ _)
   | (with_reducible exact spec_l00Has.mono _ _ _)
   | (with_reducible exact spec_l01Lay.mono _ _)
   | (with_reducible exact spec_l01Ok.mono _ _)
   | (with_reducible exact LeO.refl _)
   | (with_reducible exact LeO.none _)
   | (with_reducible refine LeO.ite ?_ ?_)
   | (with_reducible refine LeO.bind ?_ (fun _ => ?_))
   | exact ih0 _ _ _ _ _ _
   | exact ih1 _ _ _ _ _ _ _
   | exact ih2 _ _ _ _ _ _ _ _ _ _
   | exact spec_l00Has.mono _ _ _
   | exact spec_l01Lay.mono _ _
   | exact spec_l01Ok.mono _ _
   | exact LeO.none _
   | refine LeO.ite ?_ ?_
   | refine LeO.bind ?_ (fun _ => ?_)
theorem spec_CrossesIn.mono : ∀ a0 a1 a2 k, LeO (spec_CrossesIn.f k a0 a1 a2) (spec_CrossesIn.f (k + 1) a0 a1 a2) := by
 intro a0 a1 a2 k; obtain ⟨ih0, ih1, ih2⟩ := spec_CrossesIn.mono_l k
 unfold spec_CrossesIn.f
 repeat' first
   | (with_reducible exact ih0 _ _ _ _ _ _)
   | (with_reducible exact ih1 _ _ _ _ _ _ _)
   | (with_reducible exact ih2 _ _ _ _ _ _ _ _ _ _)
   | (with_reducible exact spec_l00Has.mono _ _ _)
   | (with_reducible exact spec_l01Lay.mono _ _)
   | (with_reducible exact spec_l01Ok.mono _ _)
   | (with_reducible exact LeO.refl _)
   | (with_reducible exact LeO.none _)
   | (with_reducible refine LeO.ite ?_ ?_)
   | (with_reducible refine LeO.bind ?_ (fun _ => ?_))
   | exact ih0 _ _ _ _ _ _
   | exact ih1 _ _ _ _ _ _ _
   | exact ih2 _ _ _ _ _ _ _ _ _ _
   | exact spec_l00Has.mono _ _ _
   | exact spec_l01Lay.mono _ _
   | exact spec_l01Ok.mono _ _
   | exact LeO.none _
   | refine LeO.ite ?_ ?_
   | refine LeO.bind ?_ (fun _ => ?_)
def spec_CrossesIn.T11 : Bool × List (List Nat × List Nat) := (true, [([], []), ([0], [0]), ([], []), ([2], [2]), ([1], [1]), ([4, 3], [3, 4]), ([5], [5]), ([], []), ([7], [7]), ([], []), ([8], [8]), ([10, 9], [9, 10]), ([11], [11]), ([], []), ([], []), ([14], [14]), ([13], [13]), ([16, 15], [15, 16]), ([17], [17]), ([], []), ([], []), ([19], [19]), ([21, 20], [20, 21]), ([22], [22]), ([6, 12, 18, 23], [6, 12, 18, 23]), ([24, 0, 1, 2, 3, 4, 5, 6, 7, 8, 9, 10, 11, 12, 13, 14, 15, 16, 17, 18, 19, 20, 21, 22, 23, 24], [24])])
def spec_CrossesIn.B11 : List Nat := [0, 1, 0, 4, 3, 31, 63, 0, 128, 0, 384, 1920, 3968, 0, 0, 16384, 8192, 122880, 253952, 0, 0, 524288, 3670016, 7864320, 16777215, 33554431]
theorem spec_CrossesIn.tab11 : rtab .any (opsOf Try.f13 11) = spec_CrossesIn.T11 := by kernel_rfl
theorem spec_CrossesIn.bits11 : waitsOk spec_CrossesIn.T11.2 spec_CrossesIn.B11 = true := by kernel_rfl
def spec_CrossesIn.T16 : Bool × List (List Nat × List Nat) := (true, [([], []), ([0], [0]), ([1], [1]), ([1], [1]), ([2, 3, 1], [1, 2, 3]), ([4, 1], [1, 4]), ([5, 1], [1, 5]), ([1, 6], [1, 6]), ([7, 1], [7]), ([8], [8]), ([8], [8]), ([9, 10, 8], [8, 9, 10]), ([8], [8]), ([8], [8]), ([12, 13, 8], [8, 12, 13]), ([14, 8], [8, 14]), ([11, 15, 8, 8], [8, 11, 15]), ([16, 8], [8, 16]), ([8, 17], [8, 17]), ([18, 16, 0, 1, 2, 3, 4, 5, 6, 7, 8, 9, 10, 11, 12, 13, 14, 15, 16, 17, 18], [0, 18])])
def spec_CrossesIn.B16 : List Nat := [0, 1, 3, 3, 15, 31, 63, 127, 255, 511, 511, 2047, 511, 511, 12799, 29183, 65535, 131071, 262143, 524287]
theorem spec_CrossesIn.tab16 : rtab .any (opsOf Try.f13 16) = spec_CrossesIn.T16 := by kernel_rfl
theorem spec_CrossesIn.bits16 : waitsOk spec_CrossesIn.T16.2 spec_CrossesIn.B16 = true := by kernel_rfl
set_option maxHeartbeats 8000000 in
set_option maxRecDepth 100000 in
theorem spec_CrossesIn.calls (k : Nat) (a0_0 : Int) (a0_1 : Int) (A0_2 : Option Addr) (c0_2 : Nat) (l0_2 : List (S31)) (r1 : List (S66)) (r2 : Int) (w : World) (hr0_2 : Kd.C k31 w A0_2 l0_2.length l0_2) (hc0_2 : l0_2.length ≤ c0_2) (h : spec_CrossesIn.f k a0_0 a0_1 l0_2 = some (r1, r2)) :
  Calls Try.prog 13 #[.agg #[.int .i8 a0_0, .int .i8 a0_1, .slice A0_2 l0_2.length c0_2]] w fun e w' => ∃ v0_ : Value, e = .returned (.tuple #[v0_, .int .i64 r2]) ∧ Kd.R k66 66 w' w.heap.size (fun _ => True) v0_ r1 ∧ Below w.heap.size w w' := by
 have hu29 := Try.underlying29; have hu60 := Try.underlying60; have hu66 := Try.underlying66; have HR0_2 := am_ hr0_2; have HC0_2 := am_ hc0_2; clear hr0_2 hc0_2; have HB := am_ (Below.refl w.heap.size w); have H : ((spec_l01Ok.f k [(⟨a0_0, a0_1, l0_2⟩ : S29)]).bind fun t171 => (if t171 = true then ((spec_l01Lay.f k [(⟨a0_0, a0_1, l0_2⟩ : S29)]).bind fun bt175 => (if bt175.1.length = 144 then (spec_CrossesIn.l0 k (([] : List (S66))) 1 a0_0 a0_1 l0_2 bt175.1) else (none))) else (some ((([] : List (S66))), 1)))) = some (r1, r2) := h; clear h; replace H := Option.bind_eq_some_iff.mp H; obtain ⟨t171, A20, H⟩ := H; replace H : (if t171 = true then ((spec_l01Lay.f k [(⟨a0_0, a0_1, l0_2⟩ : S29)]).bind fun bt175 => (if bt175.1.length = 144 then (spec_CrossesIn.l0 k (([] : List (S66))) 1 a0_0 a0_1 l0_2 bt175.1) else (none))) else (some ((([] : List (S66))), 1))) = some (r1, r2) := H; have A2 := am_ A20; clear A20
 by_cases c3 : t171 = true
 ·
  subst c3; have H1 : ((spec_l01Lay.f k [(⟨a0_0, a0_1, l0_2⟩ : S29)]).bind fun bt175 => (if bt175.1.length = 144 then (spec_CrossesIn.l0 k (([] : List (S66))) 1 a0_0 a0_1 l0_2 bt175.1) else (none))) = some (r1, r2) := by rw [if_pos rfl] at H; exact H
  clear H; have H := H1; clear H1; replace H := Option.bind_eq_some_iff.mp H; obtain ⟨⟨t175, t176⟩, A40, H⟩ := H; replace H : (if t175.length = 144 then (spec_CrossesIn.l0 k (([] : List (S66))) 1 a0_0 a0_1 l0_2 t175) else (none)) = some (r1, r2) := H; have A4 := am_ A40; clear A40
  by_cases c5 : t175.length = 144
  ·
   rw [if_pos c5] at H; have c5b0 := eq_true c5; have c5b1 : decide (t175.length = 144) = true := decide_eq_true c5; clear c5; obtain ⟨y178, hy178⟩ : ∃ y_ : List (S66), y_ = (([] : List (S66))) := ⟨_, rfl⟩
   replace H : (spec_CrossesIn.l0 k y178 1 a0_0 a0_1 l0_2 t175) = some (r1, r2) := by first | (rw [hy178]; with_reducible exact H) | (have H2_ := (Option.bind_some _ _).symm.trans H; rw [hy178]; with_reducible exact H2_) | (have H2_ := (Option.bind_some _ _).symm.trans H; with_reducible exact H2_) | with_reducible exact H | (rw [hy178]; exact H) | exact H
   have Ny178 := am_ hy178; clear hy178; have H' := am_ H; clear H
   go_enter Try.func13, Try.ntmps13
   go_wp2_with (first | ((with_reducible refine gate_dst (N := 1) rfl ?_); refine box_event ?hg (N := 1) ?hd (cs := #[.int .i8 a0_0, .int .i8 a0_1, .slice A0_2 l0_2.length c0_2]) (t := 29) ?hr ?_; (case hd => rfl); (case hg => rfl); (case hr => first | (go_simp; done) | (go_simp; rfl)); intro gb170 hg w6 hbox hb; have n0_ := am_ (bT_ (by repeat (first | (with_reducible first | exact HB.out | apply bA_ | apply bN_ | apply bD_) | exact HB.out)) hb); have n1_ := am_ (hbox); have n2_ := am_ ((by rw [hg]; exact (bZ_ (by repeat (first | (with_reducible first | exact HB.out | apply bA_ | apply bN_ | apply bD_) | exact HB.out))) : w.heap.size ≤ gb170)); have n3_ := n2_; clear HB; have HB := n0_; have BK170 := n1_; have GW170 := n2_; have GE170 := n3_; clear n0_ n1_ n2_ n3_; clear hb hbox hg) | ((with_reducible refine gate_callee (f := 30) rfl ?_); refine goesL_ (some 12) rfl rfl Try.func30 (by kernel_rfl) rfl #[.pointer (some ⟨gb170, 0, none⟩)] rfl (by (try simp only [List.map_toArray, List.map_cons, List.map_nil]); first | done | rfl | (simp only [List.length_drop, List.length_take]; rfl)) ?_; (with_reducible refine (spec_l01Ok.calls k _ 1 [(⟨a0_0, a0_1, l0_2⟩ : S29)] true _ ?side1 ?side2 A2.out).mono ?_); (case side1 => exact Kd.C_one_ (by (with_reducible repeat (first | apply kN_ | apply kD_ | apply kA_)); exact BK170.out) (k29_mk _ _ (by exact HC0_2.out) (by repeat (first | exact (cB_ HR0_2.out HB.out) | (with_reducible refine Kd.C_alloc ?_ _) | (with_reducible refine Kd.C_drewN ?_ _) | (with_reducible refine Kd.C_drew ?_))))); (case side2 => exact Nat.le_refl _); rintro e w7 ⟨rfl, hb⟩; refine ⟨_, rfl, ?_⟩; have n0_ := am_ (kB_ (g := gb170) (o := .cells #[.int .i8 a0_0, .int .i8 a0_1, .slice A0_2 l0_2.length c0_2] 29 (0, 0)) (by (with_reducible repeat (first | apply kN_ | apply kD_ | apply kA_)); exact BK170.out) hb); have n1_ := am_ (bT_ (by repeat (first | (with_reducible first | exact HB.out | apply bA_ | apply bN_ | apply bD_ | refine bS_ ?_ GE170.out) | exact HB.out)) hb); clear BK170; clear HB; have BK170 := n0_; have HB := n1_; clear n0_ n1_; (try clear hb); (try clear hb2); (try clear hk); (try clear hi)) | ((with_reducible refine gate_callee (f := 31) rfl ?_); refine goesL_ (some 16) rfl rfl Try.func31 (by kernel_rfl) rfl #[.pointer (some ⟨gb170, 0, none⟩)] rfl (by (try simp only [List.map_toArray, List.map_cons, List.map_nil]); first | done | rfl | (simp only [List.length_drop, List.length_take]; rfl)) ?_; (with_reducible refine (spec_l01Lay.calls k _ 1 [(⟨a0_0, a0_1, l0_2⟩ : S29)] t175 t176 _ ?side1 ?side2 A4.out).mono ?_); (case side1 => exact Kd.C_one_ (by (with_reducible repeat (first | apply kN_ | apply kD_ | apply kA_)); exact BK170.out) (k29_mk _ _ (by exact HC0_2.out) (by repeat (first | exact (cB_ HR0_2.out HB.out) | (with_reducible refine Kd.C_alloc ?_ _) | (with_reducible refine Kd.C_drewN ?_ _) | (with_reducible refine Kd.C_drew ?_))))); (case side2 => exact Nat.le_refl _); rintro e w8 ⟨rfl, hb⟩; refine ⟨_, rfl, ?_⟩; have n0_ := am_ (kB_ (g := gb170) (o := .cells #[.int .i8 a0_0, .int .i8 a0_1, .slice A0_2 l0_2.length c0_2] 29 (0, 0)) (by (with_reducible repeat (first | apply kN_ | apply kD_ | apply kA_)); exact BK170.out) hb); have n1_ := am_ (bT_ (by repeat (first | (with_reducible first | exact HB.out | apply bA_ | apply bN_ | apply bD_ | refine bS_ ?_ GE170.out) | exact HB.out)) hb); clear BK170; clear HB; have BK170 := n0_; have HB := n1_; clear n0_ n1_; (try clear hb); (try clear hb2); (try clear hk); (try clear hi)) | ((with_reducible refine gate_dst (N := 4) rfl ?_); refine box_event ?hg (N := 4) ?hd (cs := (arrC .i64 (arrZ 144))) (t := 60) ?hr ?_; (case hd => rfl); (case hg => rfl); (case hr => exact arr_alloc rfl .i64 144 (by kernel_rfl)); intro gb177 hg w9 hbox hb; have n0_ := am_ (kB_ (g := gb170) (o := .cells #[.int .i8 a0_0, .int .i8 a0_1, .slice A0_2 l0_2.length c0_2] 29 (0, 0)) (by (with_reducible repeat (first | apply kN_ | apply kD_ | apply kA_)); exact BK170.out) hb); have n1_ := am_ (bT_ (by repeat (first | (with_reducible first | exact HB.out | apply bA_ | apply bN_ | apply bD_ | refine bS_ ?_ GE170.out) | exact HB.out)) hb); have n2_ := am_ (hbox); have n3_ := am_ ((by rw [hg]; exact (bZ_ (by repeat (first | (with_reducible first | exact HB.out | apply bA_ | apply bN_ | apply bD_ | refine bS_ ?_ GE170.out) | exact HB.out))) : w.heap.size ≤ gb177)); have n4_ := n3_; have n5_ := am_ ((by rw [hg]; exact nL_ (kL_ (g := gb170) (o := .cells #[.int .i8 a0_0, .int .i8 a0_1, .slice A0_2 l0_2.length c0_2] 29 (0, 0)) (by (with_reducible repeat (first | apply kN_ | apply kD_ | apply kA_)); exact BK170.out)) : gb170 ≠ gb177)); have n6_ := am_ ((by rw [hg]; exact nG_ (kL_ (g := gb170) (o := .cells #[.int .i8 a0_0, .int .i8 a0_1, .slice A0_2 l0_2.length c0_2] 29 (0, 0)) (by (with_reducible repeat (first | apply kN_ | apply kD_ | apply kA_)); exact BK170.out)) : gb177 ≠ gb170)); clear BK170; clear HB; have BK170 := n0_; have HB := n1_; have BK177 := n2_; have GW177 := n3_; have GE177 := n4_; have NB170_177 := n5_; have NB177_170 := n6_; clear n0_ n1_ n2_ n3_ n4_ n5_ n6_; clear hb hbox hg) | ((with_reducible refine gate_store (t := 60) (p := 4) rfl ?_); refine arr_store (p := 4) (v := ?vv_w10) (n := 144) (k := .i64) (g := gb177) (l := (arrZ 144)) (l2 := t175) ?hg ?hn (t := 60) ?ho ?hp ?hv (by (with_reducible repeat (first | apply kN_ | apply kD_ | apply kA_)); exact BK177.out) (by kernel_rfl) (arrZ_length _) (od_ (by first | (with_reducible assumption) | assumption)) ?_; (case ho => rfl); (case hg => rfl); (case hn => rfl); (case hp => rfl); (case hv => rfl); intro w10 hg hx; have n0_ := am_ (blk_grown (g := gb170) (o := .cells #[.int .i8 a0_0, .int .i8 a0_1, .slice A0_2 l0_2.length c0_2] 29 (0, 0)) (by (with_reducible repeat (first | apply kN_ | apply kD_ | apply kA_)); exact BK170.out) hg (fun e_ => NB170_177.out (Option.some.inj e_))); have n1_ := am_ (hx); have n2_ := am_ (Below.grown (by repeat (first | (with_reducible first | exact HB.out | apply bA_ | apply bN_ | apply bD_ | refine bS_ ?_ GE170.out | refine bS_ ?_ GE177.out) | exact HB.out)) hg (bZ_ (by repeat (first | (with_reducible first | exact HB.out | apply bA_ | apply bN_ | apply bD_ | refine bS_ ?_ GE170.out | refine bS_ ?_ GE177.out) | exact HB.out))) (fun k_ e_ => by cases e_; exact GE177.out)); clear BK170; clear BK177; clear HB; have BK170 := n0_; have BK177 := n1_; have HB := n2_; clear n0_ n1_ n2_; clear hg hx) | ((with_reducible refine gate_dst (N := 19) rfl ?_); refine Kd.R_lit k66 _ 66 ?hg (N := 19) ?hd (xs := ([] : List (S66))) (inner := []) (ok := fun _ => True) (okp := fun _ => True) ?hr ?hp (fun _ hk => hk) trivial (Below.refl _ _) (Nat.le_refl _) (by simp) ?_; (case hd => rfl); (case hg => rfl); (case hr => first | (go_simp; done) | (go_simp; rfl)); (case hp => exact (Reps.none _ _)); intro v179 w11 ho12 hb hg_ hnew_; clear hg_ hnew_; (first | rw [← Ny178.out] at ho12 | (simp only [Int.reduceToNat] at ho12; rw [← Ny178.out] at ho12)); have n0_ := am_ (Kd.R_lower ho12 (bZ_ (by repeat (first | (with_reducible first | exact HB.out | apply bA_ | apply bN_ | apply bD_ | refine bS_ ?_ GE170.out | refine bS_ ?_ GE177.out) | exact HB.out)))); have n1_ := am_ (kB_ (g := gb170) (o := .cells #[.int .i8 a0_0, .int .i8 a0_1, .slice A0_2 l0_2.length c0_2] 29 (0, 0)) (by (with_reducible repeat (first | apply kN_ | apply kD_ | apply kA_)); exact BK170.out) hb); have n2_ := am_ (kB_ (g := gb177) (o := .cells (arrC .i64 t175) 60 (0, 0)) (by (with_reducible repeat (first | apply kN_ | apply kD_ | apply kA_)); exact BK177.out) hb); have n3_ := am_ (bT_ (by repeat (first | (with_reducible first | exact HB.out | apply bA_ | apply bN_ | apply bD_ | refine bS_ ?_ GE170.out | refine bS_ ?_ GE177.out) | exact HB.out)) hb); clear BK170; clear BK177; clear HB; have HO180 := n0_; have BK170 := n1_; have BK177 := n2_; have HB := n3_; clear n0_ n1_ n2_ n3_; clear hb ho12))
   go_loopg [6, 7] k (fun kq v6 v7 w' => ∃ (x6_1 : List (S66)) (x7_1 : Int), v7 = .int .i8 x7_1 ∧ Aside0 (spec_CrossesIn.l0 kq x6_1 x7_1 a0_0 a0_1 l0_2 t175 = some (r1, r2)) ∧ Aside0 (kq ≤ k) ∧ Aside0 (Kd.R k66 66 w' w.heap.size (fun _ => True) v6 x6_1) ∧ Aside0 (w'.heap[gb170]? = some (.cells #[.int .i8 a0_0, .int .i8 a0_1, (.slice A0_2 l0_2.length c0_2)] 29 (0, 0))) ∧ Aside0 (w'.heap[gb177]? = some (.cells (arrC .i64 t175) 60 (0, 0))) ∧ Aside0 (Below w.heap.size w w'))
   case atStart => exact ⟨(y178), (1), (by first | rfl | (simp; done) | (simp [*]; done)), H', ⟨Nat.le_refl _⟩, ⟨by (with_reducible repeat (first | apply Kd.R_alloc | apply Kd.R_drewN | apply Kd.R_drew)); exact HO180.out⟩, ⟨by (with_reducible repeat (first | apply kN_ | apply kD_ | apply kA_)); exact BK170.out⟩, ⟨by (with_reducible repeat (first | apply kN_ | apply kD_ | apply kA_)); exact BK177.out⟩, ⟨by repeat (first | (with_reducible first | exact HB.out | apply bA_ | apply bN_ | apply bD_ | refine bS_ ?_ GE170.out | refine bS_ ?_ GE177.out) | exact HB.out)⟩⟩
   case round =>
    clear H'; (try clear c1); (try clear p2); (try clear c3); (try clear c5); (try clear c5b0); (try clear c5b1); obtain ⟨x6_1, x7_1, rfl, HA, HK1, HO_6, BK170, BK177, HB⟩ := hrel
    cases gk with
    | zero => exact absurd HA.out (by simp [spec_CrossesIn.l0])
    | succ k1 =>
     have H := HA.out; clear HA; simp only [spec_CrossesIn.l0] at H
     by_cases c13 : x7_1 < a0_1
     ·
      rw [if_pos c13] at H; have c13b0 : decide (x7_1 < a0_1) = true := decide_eq_true c13; clear c13; have H' := am_ H; clear H; have hnb14 := NB170_177.out; have hnc14 := NB177_170.out; have hcz15_0 : wr.cell? ⟨gb170, 0, none⟩ = some (.int .i8 a0_0) := (kC_ BK170.out 0).trans rfl; have hcz15_1 : wr.cell? ⟨gb170, 1, none⟩ = some (.int .i8 a0_1) := (kC_ BK170.out 1).trans rfl; have hcz15_2 : wr.cell? ⟨gb170, 2, none⟩ = some (.slice A0_2 l0_2.length c0_2) := (kC_ BK170.out 2).trans rfl; have hfz15_0 := kF_ BK170.out 0; have hfz15_1 := kF_ BK170.out 1; have hfz15_2 := kF_ BK170.out 2
      go_wp2
      go_loopg [6, 8] k1 (fun kq v6 v8 w' => ∃ (x6_2 : List (S66)) (x8_2 : Int), v8 = .int .i8 x8_2 ∧ Aside0 (spec_CrossesIn.l1 kq x6_2 x7_1 x8_2 a0_0 a0_1 l0_2 t175 = some (r1, r2)) ∧ Aside0 (kq ≤ k1) ∧ Aside0 (Kd.R k66 66 w' w.heap.size (fun _ => True) v6 x6_2) ∧ Aside0 (w'.heap[gb170]? = some (.cells #[.int .i8 a0_0, .int .i8 a0_1, (.slice A0_2 l0_2.length c0_2)] 29 (0, 0))) ∧ Aside0 (w'.heap[gb177]? = some (.cells (arrC .i64 t175) 60 (0, 0))) ∧ Aside0 (Below w.heap.size w w'))
      case atStart => exact ⟨(x6_1), (1), (by first | rfl | (simp; done) | (simp [*]; done)), H', ⟨Nat.le_refl _⟩, ⟨by (with_reducible repeat (first | apply Kd.R_alloc | apply Kd.R_drewN | apply Kd.R_drew)); exact HO_6.out⟩, ⟨by (with_reducible repeat (first | apply kN_ | apply kD_ | apply kA_)); exact BK170.out⟩, ⟨by (with_reducible repeat (first | apply kN_ | apply kD_ | apply kA_)); exact BK177.out⟩, ⟨by repeat (first | (with_reducible first | exact HB.out | apply bA_ | apply bN_ | apply bD_ | refine bS_ ?_ GE170.out | refine bS_ ?_ GE177.out) | exact HB.out)⟩⟩
      case round =>
       clear H'; (try clear c1); (try clear p2); (try clear c3); (try clear c5); (try clear c5b0); (try clear c5b1); (try clear c13); (try clear c13b0); (try clear c14); (try clear hcz15_0); (try clear hcz15_1); (try clear hcz15_2); (try clear hfz15_0); (try clear hfz15_1); (try clear hfz15_2); (try clear p2); obtain ⟨x6_2, x8_2, rfl, HA, HK2, HO_6, BK170, BK177, HB⟩ := hrel
       cases gk with
       | zero => exact absurd HA.out (by simp [spec_CrossesIn.l1])
       | succ k2 =>
        have H := HA.out; clear HA; simp only [spec_CrossesIn.l1] at H
        by_cases c16 : x8_2 < a0_0
        ·
         rw [if_pos c16] at H; have c16b0 : decide (x8_2 < a0_0) = true := decide_eq_true c16; clear c16; obtain ⟨ji17, hji17⟩ : ∃ j_ : Int, (IntKind.i8.wrap (x7_1 - 1)) = j_ := ⟨_, rfl⟩
         replace H : (if 0 ≤ (ji17) then (if (ji17) < 12 then (if 0 ≤ (IntKind.i8.wrap (x8_2 - 1)) then (if (IntKind.i8.wrap (x8_2 - 1)) < 12 then (if (ji17) * 12 + (IntKind.i8.wrap (x8_2 - 1)) < (t175.length : Int) then (if 0 ≤ x8_2 then (if x8_2 < 12 then (if (ji17) * 12 + x8_2 < (t175.length : Int) then (if 0 ≤ x7_1 then (if x7_1 < 12 then (if x7_1 * 12 + (IntKind.i8.wrap (x8_2 - 1)) < (t175.length : Int) then (if x7_1 * 12 + x8_2 < (t175.length : Int) then (spec_CrossesIn.l2 k2 x6_2 x7_1 x8_2 (([rd t175 ((ji17) * 12 + (IntKind.i8.wrap (x8_2 - 1))), rd t175 ((ji17) * 12 + x8_2), rd t175 (x7_1 * 12 + (IntKind.i8.wrap (x8_2 - 1))), rd t175 (x7_1 * 12 + x8_2)] : List Int)) true 0 a0_0 a0_1 l0_2 t175) else (none)) else (none)) else (none)) else (none)) else (none)) else (none)) else (none)) else (none)) else (none)) else (none)) else (none)) else (none)) = some (r1, r2) := by first | (rw [hji17] at H; exact H) | (simp only [hji17] at H ⊢; exact H)
         by_cases c18 : 0 ≤ (ji17)
         ·
          rw [if_pos c18] at H; have c18b0 : decide (0 ≤ (ji17)) = true := decide_eq_true c18; clear c18
          by_cases c19 : (ji17) < 12
          ·
           rw [if_pos c19] at H; have c19b0 : decide ((ji17) < 12) = true := decide_eq_true c19; clear c19; obtain ⟨ji21, hji21⟩ : ∃ j_ : Int, (IntKind.i8.wrap (x8_2 - 1)) = j_ := ⟨_, rfl⟩
           replace H : (if 0 ≤ (ji21) then (if (ji21) < 12 then (if (ji17) * 12 + (ji21) < (t175.length : Int) then (if 0 ≤ x8_2 then (if x8_2 < 12 then (if (ji17) * 12 + x8_2 < (t175.length : Int) then (if 0 ≤ x7_1 then (if x7_1 < 12 then (if x7_1 * 12 + (ji21) < (t175.length : Int) then (if x7_1 * 12 + x8_2 < (t175.length : Int) then (spec_CrossesIn.l2 k2 x6_2 x7_1 x8_2 (([rd t175 ((ji17) * 12 + (ji21)), rd t175 ((ji17) * 12 + x8_2), rd t175 (x7_1 * 12 + (ji21)), rd t175 (x7_1 * 12 + x8_2)] : List Int)) true 0 a0_0 a0_1 l0_2 t175) else (none)) else (none)) else (none)) else (none)) else (none)) else (none)) else (none)) else (none)) else (none)) else (none)) = some (r1, r2) := by first | (rw [hji21] at H; exact H) | (simp only [hji21] at H ⊢; exact H)
           by_cases c22 : 0 ≤ (ji21)
           ·
            rw [if_pos c22] at H; have c22b0 : decide (0 ≤ (ji21)) = true := decide_eq_true c22; clear c22
            by_cases c23 : (ji21) < 12
            ·
             rw [if_pos c23] at H; have c23b0 : decide ((ji21) < 12) = true := decide_eq_true c23; clear c23
             by_cases c25 : (ji17) * 12 + (ji21) < (t175.length : Int)
             ·
              rw [if_pos c25] at H; have c25b0 := eq_true c25; have c25b1 : decide ((ji17) * 12 + (ji21) < (t175.length : Int)) = true := decide_eq_true c25
              by_cases c27 : 0 ≤ x8_2
              ·
               rw [if_pos c27] at H; have c27b0 : decide (0 ≤ x8_2) = true := decide_eq_true c27; clear c27
               by_cases c28 : x8_2 < 12
               ·
                rw [if_pos c28] at H; have c28b0 : decide (x8_2 < 12) = true := decide_eq_true c28; clear c28
                by_cases c30 : (ji17) * 12 + x8_2 < (t175.length : Int)
                ·
                 rw [if_pos c30] at H; have c30b0 := eq_true c30; have c30b1 : decide ((ji17) * 12 + x8_2 < (t175.length : Int)) = true := decide_eq_true c30
                 by_cases c31 : 0 ≤ x7_1
                 ·
                  rw [if_pos c31] at H; have c31b0 : decide (0 ≤ x7_1) = true := decide_eq_true c31; clear c31
                  by_cases c32 : x7_1 < 12
                  ·
                   rw [if_pos c32] at H; have c32b0 : decide (x7_1 < 12) = true := decide_eq_true c32; clear c32
                   by_cases c35 : x7_1 * 12 + (ji21) < (t175.length : Int)
                   ·
                    rw [if_pos c35] at H; have c35b0 := eq_true c35; have c35b1 : decide (x7_1 * 12 + (ji21) < (t175.length : Int)) = true := decide_eq_true c35
                    by_cases c38 : x7_1 * 12 + x8_2 < (t175.length : Int)
                    ·
                     rw [if_pos c38] at H; have c38b0 := eq_true c38; have c38b1 : decide (x7_1 * 12 + x8_2 < (t175.length : Int)) = true := decide_eq_true c38; obtain ⟨y181, hy181⟩ : ∃ y_ : List Int, y_ = (([rd t175 ((ji17) * 12 + (ji21)), rd t175 ((ji17) * 12 + x8_2), rd t175 (x7_1 * 12 + (ji21)), rd t175 (x7_1 * 12 + x8_2)] : List Int)) := ⟨_, rfl⟩
                     replace H : (spec_CrossesIn.l2 k2 x6_2 x7_1 x8_2 y181 true 0 a0_0 a0_1 l0_2 t175) = some (r1, r2) := by first | (rw [hy181]; with_reducible exact H) | (have H2_ := (Option.bind_some _ _).symm.trans H; rw [hy181]; with_reducible exact H2_) | (have H2_ := (Option.bind_some _ _).symm.trans H; with_reducible exact H2_) | with_reducible exact H | (rw [hy181]; exact H) | exact H
                     have Ny181 := am_ hy181; clear hy181; have H' := am_ H; clear H; have hnb39 := NB170_177.out; have hnc39 := NB177_170.out; have hcz40_0 : wr.cell? ⟨gb170, 0, none⟩ = some (.int .i8 a0_0) := (kC_ BK170.out 0).trans rfl; have hcz40_1 : wr.cell? ⟨gb170, 1, none⟩ = some (.int .i8 a0_1) := (kC_ BK170.out 1).trans rfl; have hcz40_2 : wr.cell? ⟨gb170, 2, none⟩ = some (.slice A0_2 l0_2.length c0_2) := (kC_ BK170.out 2).trans rfl; have hfz40_0 := kF_ BK170.out 0; have hfz40_1 := kF_ BK170.out 1; have hfz40_2 := kF_ BK170.out 2
                     try go_wp2
                     have n0_ := am_ (Kd.R_drew HO_6.out); have n1_ := am_ (kD_ BK170.out); have n2_ := am_ (kD_ BK177.out); have n3_ := am_ (bD_ HB.out); clear HO_6; clear BK170; clear BK177; clear HB; have HO_6 := n0_; have BK170 := n1_; have BK177 := n2_; have HB := n3_; clear n0_ n1_ n2_ n3_; have p20 : 0 ≤ ((ji17) : Int) := od_ (by first | (with_reducible assumption) | assumption); have q20 : ((ji17) : Int) < (12 : Int) := od_ (by first | (with_reducible assumption) | assumption); replace p20 := eq_true p20; replace q20 := eq_true q20; have p24 : 0 ≤ ((ji21) : Int) := od_ (by first | (with_reducible assumption) | assumption); have q24 : ((ji21) : Int) < (12 : Int) := od_ (by first | (with_reducible assumption) | assumption); replace p24 := eq_true p24; replace q24 := eq_true q24; have p26 : 0 ≤ ((ji17) : Int) := od_ (by first | (with_reducible assumption) | assumption); have q26 : ((ji17) : Int) < (12 : Int) := od_ (by first | (with_reducible assumption) | assumption); replace p26 := eq_true p26; replace q26 := eq_true q26; have p29 : 0 ≤ (x8_2 : Int) := od_ (by first | (with_reducible assumption) | assumption); have q29 : (x8_2 : Int) < (12 : Int) := od_ (by first | (with_reducible assumption) | assumption); replace p29 := eq_true p29; replace q29 := eq_true q29; have p33 : 0 ≤ (x7_1 : Int) := od_ (by first | (with_reducible assumption) | assumption); have q33 : (x7_1 : Int) < (12 : Int) := od_ (by first | (with_reducible assumption) | assumption); replace p33 := eq_true p33; replace q33 := eq_true q33; have p34 : 0 ≤ ((ji21) : Int) := od_ (by first | (with_reducible assumption) | assumption); have q34 : ((ji21) : Int) < (12 : Int) := od_ (by first | (with_reducible assumption) | assumption); replace p34 := eq_true p34; replace q34 := eq_true q34; have p36 : 0 ≤ (x7_1 : Int) := od_ (by first | (with_reducible assumption) | assumption); have q36 : (x7_1 : Int) < (12 : Int) := od_ (by first | (with_reducible assumption) | assumption); replace p36 := eq_true p36; replace q36 := eq_true q36; have p37 : 0 ≤ (x8_2 : Int) := od_ (by first | (with_reducible assumption) | assumption); have q37 : (x8_2 : Int) < (12 : Int) := od_ (by first | (with_reducible assumption) | assumption); replace p37 := eq_true p37; replace q37 := eq_true q37; refine start_ (n := 26) (S := fun w' => w'.cell? ⟨gb177, (ji17).toNat * 12 + (ji21).toNat, none⟩ = some (.int .i64 (rd t175 ((ji17) * 12 + (ji21)))) ∧ w'.cell? ⟨gb177, (ji17).toNat * 12 + x8_2.toNat, none⟩ = some (.int .i64 (rd t175 ((ji17) * 12 + x8_2))) ∧ w'.cell? ⟨gb177, x7_1.toNat * 12 + (ji21).toNat, none⟩ = some (.int .i64 (rd t175 (x7_1 * 12 + (ji21)))) ∧ w'.cell? ⟨gb177, x7_1.toNat * 12 + x8_2.toNat, none⟩ = some (.int .i64 (rd t175 (x7_1 * 12 + x8_2)))) (ds := []) (mB_ 26 0) (by kernel_rfl) rfl rfl ⟨(arr_cell (by (with_reducible repeat (first | apply kN_ | apply kD_ | apply kA_)); exact BK177.out) ((ji17) * 12 + (ji21)) _ (by have h0_ : (0 : Int) ≤ (ji17) := od_ (by first | (with_reducible assumption) | assumption); have h1_ : (0 : Int) ≤ (ji21) := od_ (by first | (with_reducible assumption) | assumption); omega) (od_ (by first | (with_reducible assumption) | assumption))), (arr_cell (by (with_reducible repeat (first | apply kN_ | apply kD_ | apply kA_)); exact BK177.out) ((ji17) * 12 + x8_2) _ (by have h0_ : (0 : Int) ≤ (ji17) := od_ (by first | (with_reducible assumption) | assumption); have h1_ : (0 : Int) ≤ x8_2 := od_ (by first | (with_reducible assumption) | assumption); omega) (od_ (by first | (with_reducible assumption) | assumption))), (arr_cell (by (with_reducible repeat (first | apply kN_ | apply kD_ | apply kA_)); exact BK177.out) (x7_1 * 12 + (ji21)) _ (by have h0_ : (0 : Int) ≤ x7_1 := od_ (by first | (with_reducible assumption) | assumption); have h1_ : (0 : Int) ≤ (ji21) := od_ (by first | (with_reducible assumption) | assumption); omega) (od_ (by first | (with_reducible assumption) | assumption))), (arr_cell (by (with_reducible repeat (first | apply kN_ | apply kD_ | apply kA_)); exact BK177.out) (x7_1 * 12 + x8_2) _ (by have h0_ : (0 : Int) ≤ x7_1 := od_ (by first | (with_reducible assumption) | assumption); have h1_ : (0 : Int) ≤ x8_2 := od_ (by first | (with_reducible assumption) | assumption); omega) (od_ (by first | (with_reducible assumption) | assumption)))⟩ (fun hHeld => ?_); refine with_tabW spec_CrossesIn.tab11 spec_CrossesIn.bits11 (fun HT_ HW_ => ?_)
                     generalize wr.drew = w41 at HO_6 BK170 BK177 HB hHeld ⊢; refine pure_ (i := 0) (N := some 32) (v := ?_) (a' := ?_) (mB_ 26 1) rfl rfl (any_of HT_.out (by kernel_rfl)) (fun _ _ _ h => h) (Or.inl ⟨by rfl, ?_⟩) ?_ ?_; rotate_left
                     ·
                      intro w'
                      go_simp
                      with_reducible rfl
                     rotate_left
                     ·
                      simp only [Act.put, z1_, z2_, z3_, i64_w, i32_w]
                      rfl
                     refine pure_ (i := 1) (N := some 33) (v := ?_) (a' := ?_) (mB_ 26 3) rfl rfl (any_of HT_.out (by kernel_rfl)) (fun _ _ _ h => h) (Or.inl ⟨by rfl, ?_⟩) ?_ ?_; rotate_left
                     ·
                      intro w'
                      go_simp
                      with_reducible rfl
                     rotate_left
                     ·
                      simp only [Act.put, z1_, z2_, z3_, i64_w, i32_w]
                      rfl
                     refine pure_ (i := 2) (N := some 34) (v := ?_) (a' := ?_) (mB_ 26 7) rfl rfl (any_of HT_.out (by kernel_rfl)) (fun _ _ _ h => h) (Or.inl ⟨by rfl, ?_⟩) ?_ ?_; rotate_left
                     ·
                      intro w'
                      go_simp
                      with_reducible rfl
                     rotate_left
                     ·
                      simp only [Act.put, z1_, z2_, z3_, i64_w, i32_w]
                      rfl
                     refine pure_ (i := 3) (N := some 35) (v := ?_) (a' := ?_) (mB_ 26 15) rfl rfl (any_of HT_.out (by kernel_rfl)) (fun _ _ _ h => h) (Or.inl ⟨by rfl, ?_⟩) ?_ ?_; rotate_left
                     ·
                      intro w'
                      go_simp
                      with_reducible rfl
                     rotate_left
                     ·
                      simp only [Act.put, z1_, z2_, z3_, i64_w, i32_w]
                      rfl
                     refine pure_ (i := 4) (N := some 36) (v := ?_) (a' := ?_) (mB_ 26 31) rfl rfl (any_of HT_.out (by kernel_rfl)) (fun _ _ _ h => h) (Or.inl ⟨by rfl, ?_⟩) ?_ ?_; rotate_left
                     ·
                      intro w'
                      go_simp
                      with_reducible rfl
                     rotate_left
                     ·
                      simp only [Act.put, z1_, z2_, z3_, i64_w, i32_w]
                      rfl
                     refine pure_ (i := 5) (N := some 37) (v := ?_) (a' := ?_) (mB_ 26 63) rfl rfl (any_of HT_.out (by kernel_rfl)) (fun _ _ _ h => h) (Or.inl ⟨by rfl, ?_⟩) ?_ ?_; rotate_left
                     ·
                      intro w'
                      go_simp
                      with_reducible rfl
                     rotate_left
                     ·
                      simp only [Act.put, z1_, z2_, z3_, i64_w, i32_w]
                      rfl
                     refine pure_ (i := 7) (N := some 39) (v := ?_) (a' := ?_) (mB_ 26 191) rfl rfl (any_of HT_.out (by kernel_rfl)) (fun _ _ _ h => h) (Or.inl ⟨by rfl, ?_⟩) ?_ ?_; rotate_left
                     ·
                      intro w'
                      go_simp
                      with_reducible rfl
                     rotate_left
                     ·
                      simp only [Act.put, z1_, z2_, z3_, i64_w, i32_w]
                      rfl
                     refine pure_ (i := 8) (N := some 40) (v := ?_) (a' := ?_) (mB_ 26 447) rfl rfl (any_of HT_.out (by kernel_rfl)) (fun _ _ _ h => h) (Or.inl ⟨by rfl, ?_⟩) ?_ ?_; rotate_left
                     ·
                      intro w'
                      go_simp
                      with_reducible rfl
                     rotate_left
                     ·
                      simp only [Act.put, z1_, z2_, z3_, i64_w, i32_w]
                      rfl
                     refine pure_ (i := 9) (N := some 41) (v := ?_) (a' := ?_) (mB_ 26 959) rfl rfl (any_of HT_.out (by kernel_rfl)) (fun _ _ _ h => h) (Or.inl ⟨by rfl, ?_⟩) ?_ ?_; rotate_left
                     ·
                      intro w'
                      go_simp
                      with_reducible rfl
                     rotate_left
                     ·
                      simp only [Act.put, z1_, z2_, z3_, i64_w, i32_w]
                      rfl
                     refine pure_ (i := 10) (N := some 42) (v := ?_) (a' := ?_) (mB_ 26 1983) rfl rfl (any_of HT_.out (by kernel_rfl)) (fun _ _ _ h => h) (Or.inl ⟨by rfl, ?_⟩) ?_ ?_; rotate_left
                     ·
                      intro w'
                      go_simp
                      with_reducible rfl
                     rotate_left
                     ·
                      simp only [Act.put, z1_, z2_, z3_, i64_w, i32_w]
                      rfl
                     refine pure_ (i := 11) (N := some 43) (v := ?_) (a' := ?_) (mB_ 26 4031) rfl rfl (any_of HT_.out (by kernel_rfl)) (fun _ _ _ h => h) (Or.inl ⟨by rfl, ?_⟩) ?_ ?_; rotate_left
                     ·
                      intro w'
                      go_simp
                      with_reducible rfl
                     rotate_left
                     ·
                      simp only [Act.put, z1_, z2_, z3_, i64_w, i32_w]
                      rfl
                     refine pure_ (i := 13) (N := some 45) (v := ?_) (a' := ?_) (mB_ 26 12223) rfl rfl (any_of HT_.out (by kernel_rfl)) (fun _ _ _ h => h) (Or.inl ⟨by rfl, ?_⟩) ?_ ?_; rotate_left
                     ·
                      intro w'
                      go_simp
                      with_reducible rfl
                     rotate_left
                     ·
                      simp only [Act.put, z1_, z2_, z3_, i64_w, i32_w]
                      rfl
                     refine pure_ (i := 14) (N := some 46) (v := ?_) (a' := ?_) (mB_ 26 28607) rfl rfl (any_of HT_.out (by kernel_rfl)) (fun _ _ _ h => h) (Or.inl ⟨by rfl, ?_⟩) ?_ ?_; rotate_left
                     ·
                      intro w'
                      go_simp
                      with_reducible rfl
                     rotate_left
                     ·
                      simp only [Act.put, z1_, z2_, z3_, i64_w, i32_w]
                      rfl
                     refine pure_ (i := 15) (N := some 47) (v := ?_) (a' := ?_) (mB_ 26 61375) rfl rfl (any_of HT_.out (by kernel_rfl)) (fun _ _ _ h => h) (Or.inl ⟨by rfl, ?_⟩) ?_ ?_; rotate_left
                     ·
                      intro w'
                      go_simp
                      with_reducible rfl
                     rotate_left
                     ·
                      simp only [Act.put, z1_, z2_, z3_, i64_w, i32_w]
                      rfl
                     refine pure_ (i := 16) (N := some 48) (v := ?_) (a' := ?_) (mB_ 26 126911) rfl rfl (any_of HT_.out (by kernel_rfl)) (fun _ _ _ h => h) (Or.inl ⟨by rfl, ?_⟩) ?_ ?_; rotate_left
                     ·
                      intro w'
                      go_simp
                      with_reducible rfl
                     rotate_left
                     ·
                      simp only [Act.put, z1_, z2_, z3_, i64_w, i32_w]
                      rfl
                     refine pure_ (i := 17) (N := some 49) (v := ?_) (a' := ?_) (mB_ 26 257983) rfl rfl (any_of HT_.out (by kernel_rfl)) (fun _ _ _ h => h) (Or.inl ⟨by rfl, ?_⟩) ?_ ?_; rotate_left
                     ·
                      intro w'
                      go_simp
                      with_reducible rfl
                     rotate_left
                     ·
                      simp only [Act.put, z1_, z2_, z3_, i64_w, i32_w]
                      rfl
                     refine pure_ (i := 19) (N := some 51) (v := ?_) (a' := ?_) (mB_ 26 782271) rfl rfl (any_of HT_.out (by kernel_rfl)) (fun _ _ _ h => h) (Or.inl ⟨by rfl, ?_⟩) ?_ ?_; rotate_left
                     ·
                      intro w'
                      go_simp
                      with_reducible rfl
                     rotate_left
                     ·
                      simp only [Act.put, z1_, z2_, z3_, i64_w, i32_w]
                      rfl
                     refine pure_ (i := 20) (N := some 52) (v := ?_) (a' := ?_) (mB_ 26 1830847) rfl rfl (any_of HT_.out (by kernel_rfl)) (fun _ _ _ h => h) (Or.inl ⟨by rfl, ?_⟩) ?_ ?_; rotate_left
                     ·
                      intro w'
                      go_simp
                      with_reducible rfl
                     rotate_left
                     ·
                      simp only [Act.put, z1_, z2_, z3_, i64_w, i32_w]
                      rfl
                     refine pure_ (i := 21) (N := some 53) (v := ?_) (a' := ?_) (mB_ 26 3927999) rfl rfl (any_of HT_.out (by kernel_rfl)) (fun _ _ _ h => h) (Or.inl ⟨by rfl, ?_⟩) ?_ ?_; rotate_left
                     ·
                      intro w'
                      go_simp
                      with_reducible rfl
                     rotate_left
                     ·
                      simp only [Act.put, z1_, z2_, z3_, i64_w, i32_w]
                      rfl
                     refine pure_ (i := 22) (N := some 54) (v := ?_) (a' := ?_) (mB_ 26 8122303) rfl rfl (any_of HT_.out (by kernel_rfl)) (fun _ _ _ h => h) (Or.inl ⟨by rfl, ?_⟩) ?_ ?_; rotate_left
                     ·
                      intro w'
                      go_simp
                      with_reducible rfl
                     rotate_left
                     ·
                      simp only [Act.put, z1_, z2_, z3_, i64_w, i32_w]
                      rfl
                     refine take_ (i := 6) (N := some 38) (v := ?_) (a' := ?_) (mB_ 26 8122367) rfl rfl (take_ofW HT_.out HW_.out (by kernel_rfl)) (fun _ _ _ h => h) (Or.inl ⟨by rfl, ?_⟩) hHeld ?_ ?_; rotate_left
                     ·
                      rintro w' ⟨s0, s1, s2, s3⟩
                      go_simp
                      with_reducible rfl
                     rotate_left
                     ·
                      simp only [Act.put, z1_, z2_, z3_, i64_w, i32_w]
                      rfl
                     refine take_ (i := 12) (N := some 44) (v := ?_) (a' := ?_) (mB_ 26 8126463) rfl rfl (take_ofW HT_.out HW_.out (by kernel_rfl)) (fun _ _ _ h => h) (Or.inl ⟨by rfl, ?_⟩) hHeld ?_ ?_; rotate_left
                     ·
                      rintro w' ⟨s0, s1, s2, s3⟩
                      go_simp
                      with_reducible rfl
                     rotate_left
                     ·
                      simp only [Act.put, z1_, z2_, z3_, i64_w, i32_w]
                      rfl
                     refine take_ (i := 18) (N := some 50) (v := ?_) (a' := ?_) (mB_ 26 8388607) rfl rfl (take_ofW HT_.out HW_.out (by kernel_rfl)) (fun _ _ _ h => h) (Or.inl ⟨by rfl, ?_⟩) hHeld ?_ ?_; rotate_left
                     ·
                      rintro w' ⟨s0, s1, s2, s3⟩
                      go_simp
                      with_reducible rfl
                     rotate_left
                     ·
                      simp only [Act.put, z1_, z2_, z3_, i64_w, i32_w]
                      rfl
                     refine take_ (i := 23) (N := some 55) (v := ?_) (a' := ?_) (mB_ 26 16777215) rfl rfl (take_ofW HT_.out HW_.out (by kernel_rfl)) (fun _ _ _ h => h) (Or.inl ⟨by rfl, ?_⟩) hHeld ?_ ?_; rotate_left
                     ·
                      rintro w' ⟨s0, s1, s2, s3⟩
                      go_simp
                      with_reducible rfl
                     rotate_left
                     ·
                      simp only [Act.put, z1_, z2_, z3_, i64_w, i32_w]
                      rfl
                     refine one_ (i := 24) (N := some 56) (mB_ 26 33554431) rfl rfl (one_of HT_.out (by kernel_rfl)) (by decide) (fun K hK => ?_); refine Kd.R_lit_step (Kd.int .i64) _ 2 ?hg (N := 56) ?hd (xs := ([rd t175 ((ji17) * 12 + (ji21)), rd t175 ((ji17) * 12 + x8_2), rd t175 (x7_1 * 12 + (ji21)), rd t175 (x7_1 * 12 + x8_2)] : List Int)) (inner := [.int .i64 (rd t175 ((ji17) * 12 + (ji21))), .int .i64 (rd t175 ((ji17) * 12 + x8_2)), .int .i64 (rd t175 (x7_1 * 12 + (ji21))), .int .i64 (rd t175 (x7_1 * 12 + x8_2))]) (ok := fun _ => True) (okp := fun _ => True) ?hr ?hp (fun _ hk => hk) trivial (Below.refl _ _) (Nat.le_refl _) (by simp) ?_; (case hd => rfl); (case hg => rfl); (case hr => first | (go_simp; done) | (go_simp; rfl)); (case hp => exact (Reps.one (show Kd.M (Kd.int .i64) _ _ _ (rd t175 ((ji17) * 12 + (ji21))) [.int .i64 (rd t175 ((ji17) * 12 + (ji21)))] from rfl) (Reps.one (show Kd.M (Kd.int .i64) _ _ _ (rd t175 ((ji17) * 12 + x8_2)) [.int .i64 (rd t175 ((ji17) * 12 + x8_2))] from rfl) (Reps.one (show Kd.M (Kd.int .i64) _ _ _ (rd t175 (x7_1 * 12 + (ji21))) [.int .i64 (rd t175 (x7_1 * 12 + (ji21)))] from rfl) (Reps.one (show Kd.M (Kd.int .i64) _ _ _ (rd t175 (x7_1 * 12 + x8_2)) [.int .i64 (rd t175 (x7_1 * 12 + x8_2))] from rfl) (Reps.none _ _)))))); intro v182 w46 ho47 hb hg_ hnew_; clear hg_ hnew_
                     (first | rw [← Ny181.out] at ho47 | (simp only [Int.reduceToNat] at ho47; rw [← Ny181.out] at ho47))
                     have n0_ := am_ (Kd.R_below (by (with_reducible repeat (first | apply Kd.R_alloc | apply Kd.R_drewN | apply Kd.R_drew)); exact HO_6.out) hb); have n1_ := am_ (Kd.R_lower ho47 (bZ_ (by repeat (first | (with_reducible first | exact HB.out | apply bA_ | apply bN_ | apply bD_ | refine bS_ ?_ GE170.out | refine bS_ ?_ GE177.out) | exact HB.out)))); have n2_ := am_ (kB_ (g := gb170) (o := .cells #[.int .i8 a0_0, .int .i8 a0_1, .slice A0_2 l0_2.length c0_2] 29 (0, 0)) (by (with_reducible repeat (first | apply kN_ | apply kD_ | apply kA_)); exact BK170.out) hb); have n3_ := am_ (kB_ (g := gb177) (o := .cells (arrC .i64 t175) 60 (0, 0)) (by (with_reducible repeat (first | apply kN_ | apply kD_ | apply kA_)); exact BK177.out) hb); have n4_ := am_ (bT_ (by repeat (first | (with_reducible first | exact HB.out | apply bA_ | apply bN_ | apply bD_ | refine bS_ ?_ GE170.out | refine bS_ ?_ GE177.out) | exact HB.out)) hb); clear HO_6; clear BK170; clear BK177; clear HB; have HO_6 := n0_; have HO183 := n1_; have BK170 := n2_; have BK177 := n3_; have HB := n4_; clear n0_ n1_ n2_ n3_ n4_; clear hb ho47; refine hK.out _ _ ⟨(arr_cell (by (with_reducible repeat (first | apply kN_ | apply kD_ | apply kA_)); exact BK177.out) ((ji17) * 12 + (ji21)) _ (by have h0_ : (0 : Int) ≤ (ji17) := od_ (by first | (with_reducible assumption) | assumption); have h1_ : (0 : Int) ≤ (ji21) := od_ (by first | (with_reducible assumption) | assumption); omega) (od_ (by first | (with_reducible assumption) | assumption))), (arr_cell (by (with_reducible repeat (first | apply kN_ | apply kD_ | apply kA_)); exact BK177.out) ((ji17) * 12 + x8_2) _ (by have h0_ : (0 : Int) ≤ (ji17) := od_ (by first | (with_reducible assumption) | assumption); have h1_ : (0 : Int) ≤ x8_2 := od_ (by first | (with_reducible assumption) | assumption); omega) (od_ (by first | (with_reducible assumption) | assumption))), (arr_cell (by (with_reducible repeat (first | apply kN_ | apply kD_ | apply kA_)); exact BK177.out) (x7_1 * 12 + (ji21)) _ (by have h0_ : (0 : Int) ≤ x7_1 := od_ (by first | (with_reducible assumption) | assumption); have h1_ : (0 : Int) ≤ (ji21) := od_ (by first | (with_reducible assumption) | assumption); omega) (od_ (by first | (with_reducible assumption) | assumption))), (arr_cell (by (with_reducible repeat (first | apply kN_ | apply kD_ | apply kA_)); exact BK177.out) (x7_1 * 12 + x8_2) _ (by have h0_ : (0 : Int) ≤ x7_1 := od_ (by first | (with_reducible assumption) | assumption); have h1_ : (0 : Int) ≤ x8_2 := od_ (by first | (with_reducible assumption) | assumption); omega) (od_ (by first | (with_reducible assumption) | assumption)))⟩ (fun hHeld => ?_); clear hK K; refine norm_ (a' := ?_) ?_ ?_; rotate_left
                     ·
                      show Act.put _ (some 56) _ = _
                      simp only [Act.put, z1_, z2_, z3_, i64_w, i32_w]
                      rfl
                     refine pure_ (i := 25) (N := some 9) (v := ?_) (a' := ?_) (mB_ 26 67108863) rfl rfl (any_of HT_.out (by kernel_rfl)) (fun _ _ _ h => h) (Or.inl ⟨by rfl, ?_⟩) ?_ ?_; rotate_left
                     ·
                      intro w'
                      go_simp
                      with_reducible rfl
                     rotate_left
                     ·
                      simp only [Act.put, z1_, z2_, z3_, i64_w, i32_w]
                      rfl
                     refine done_ (done_of HT_.out (by kernel_rfl)) ?_
                     try go_wp2
                     go_loopg [10, 11] k2 (fun kq v10 v11 w' => ∃ (x10_3 : Bool) (x11_3 : Int), v10 = .bool x10_3 ∧ v11 = .int .i64 x11_3 ∧ Aside0 (spec_CrossesIn.l2 kq x6_2 x7_1 x8_2 y181 x10_3 x11_3 a0_0 a0_1 l0_2 t175 = some (r1, r2)) ∧ Aside0 (kq ≤ k2) ∧ Aside0 (Kd.R k66 66 w' w.heap.size (fun _ => True) u6 x6_2) ∧ Aside0 (Kd.R (Kd.int .i64) 2 w' w.heap.size (fun _ => True) v182 y181) ∧ Aside0 (w'.heap[gb170]? = some (.cells #[.int .i8 a0_0, .int .i8 a0_1, (.slice A0_2 l0_2.length c0_2)] 29 (0, 0))) ∧ Aside0 (w'.heap[gb177]? = some (.cells (arrC .i64 t175) 60 (0, 0))) ∧ Aside0 (Below w.heap.size w w'))
                     case atStart => exact ⟨(true), (0), (by first | rfl | (simp; done) | (simp [*]; done)), (by first | rfl | (simp; done) | (simp [*]; done)), H', ⟨Nat.le_refl _⟩, ⟨by (with_reducible repeat (first | apply Kd.R_alloc | apply Kd.R_drewN | apply Kd.R_drew)); exact HO_6.out⟩, ⟨by (with_reducible repeat (first | apply Kd.R_alloc | apply Kd.R_drewN | apply Kd.R_drew)); exact HO183.out⟩, ⟨by (with_reducible repeat (first | apply kN_ | apply kD_ | apply kA_)); exact BK170.out⟩, ⟨by (with_reducible repeat (first | apply kN_ | apply kD_ | apply kA_)); exact BK177.out⟩, ⟨by repeat (first | (with_reducible first | exact HB.out | apply bA_ | apply bN_ | apply bD_ | refine bS_ ?_ GE170.out | refine bS_ ?_ GE177.out) | exact HB.out)⟩⟩
                     case round =>
                      clear H'; (try clear c1); (try clear c2); (try clear p2); (try clear q2); (try clear c3); (try clear p3); (try clear q3); (try clear c5); (try clear c5b0); (try clear c5b1); (try clear c13); (try clear c13b0); (try clear c14); (try clear c16); (try clear c16b0); (try clear c18); (try clear c18b0); (try clear c19); (try clear c19b0); (try clear p20); (try clear q20); (try clear c22); (try clear c22b0); (try clear c23); (try clear c23b0); (try clear p24); (try clear q24); (try clear c25); (try clear c25b0); (try clear c25b1); (try clear p26); (try clear q26); (try clear c27); (try clear c27b0); (try clear c28); (try clear c28b0); (try clear p29); (try clear q29); (try clear c30); (try clear c30b0); (try clear c30b1); (try clear c31); (try clear c31b0); (try clear c32); (try clear c32b0); (try clear p33); (try clear q33); (try clear p34); (try clear q34); (try clear c35); (try clear c35b0); (try clear c35b1); (try clear p36); (try clear q36); (try clear p37); (try clear q37); (try clear c38); (try clear c38b0); (try clear c38b1); (try clear c39); (try clear hcz15_0); (try clear hcz15_1); (try clear hcz15_2); (try clear hcz40_0); (try clear hcz40_1); (try clear hcz40_2); (try clear hfz15_0); (try clear hfz15_1); (try clear hfz15_2); (try clear hfz40_0); (try clear hfz40_1); (try clear hfz40_2); (try clear p2); (try clear p20); (try clear p24); (try clear p26); (try clear p29); (try clear p33); (try clear p34); (try clear p36); (try clear p37); (try clear q20); (try clear q24); (try clear q26); (try clear q29); (try clear q33); (try clear q34); (try clear q36); (try clear q37); obtain ⟨x10_3, x11_3, rfl, rfl, HA, HK3, HO_6, HO_9, BK170, BK177, HB⟩ := hrel
                      cases gk with
                      | zero => exact absurd HA.out (by simp [spec_CrossesIn.l2])
                      | succ k3 =>
                       have H := HA.out; clear HA; simp only [spec_CrossesIn.l2] at H
                       by_cases c48 : x11_3 < 4
                       ·
                        rw [if_pos c48] at H; have c48b0 : decide (x11_3 < 4) = true := decide_eq_true c48; clear c48
                        by_cases c49 : x10_3 = true
                        ·
                         subst c49; have H1 : (if 0 ≤ x11_3 then (if x11_3 < (y181.length : Int) then (if (rd y181 x11_3) = 0 then (spec_CrossesIn.l2 k3 x6_2 x7_1 x8_2 y181 false (wrap64 (x11_3 + 1)) a0_0 a0_1 l0_2 t175) else (if x11_3 ≤ (y181.length : Int) then ((spec_l00Has.f k3 (y181.take (x11_3 : Int).toNat) (rd y181 x11_3)).bind fun t190 => (spec_CrossesIn.l2 k3 x6_2 x7_1 x8_2 y181 (!t190) (wrap64 (x11_3 + 1)) a0_0 a0_1 l0_2 t175)) else (none))) else (none)) else (none)) = some (r1, r2) := by rw [if_pos rfl] at H; exact H
                         clear H; have H := H1; clear H1
                         by_cases c50 : 0 ≤ x11_3
                         ·
                          rw [if_pos c50] at H; have c50b0 : decide (0 ≤ x11_3) = true := decide_eq_true c50; clear c50
                          by_cases c51 : x11_3 < (y181.length : Int)
                          ·
                           rw [if_pos c51] at H; have c51b0 : decide (x11_3 < (y181.length : Int)) = true := decide_eq_true c51; clear c51
                           by_cases c52 : (rd y181 x11_3) = 0
                           ·
                            rw [if_pos c52] at H; have c52b0 : ((rd y181 x11_3) == 0) = true := beq_iff_eq.mpr c52; have c52b1 : ((rd y181 x11_3) != 0) = false := bne_eq_false_iff_eq.mpr c52; clear c52; have H' := am_ H; clear H
                            try go_wp2
                            have n0_ := am_ (Kd.R_drew HO_6.out); have n1_ := am_ (Kd.R_drew HO_9.out); have n2_ := am_ (kD_ BK170.out); have n3_ := am_ (kD_ BK177.out); have n4_ := am_ (bD_ HB.out); clear HO_6; clear HO_9; clear BK170; clear BK177; clear HB; have HO_6 := n0_; have HO_9 := n1_; have BK170 := n2_; have BK177 := n3_; have HB := n4_; clear n0_ n1_ n2_ n3_ n4_; obtain ⟨Ao54, co54, eo54⟩ := Kd.R_slice HO_9.out
                            (first | subst eo54 | (injection eo54 with f1_ f2_ f3_; have f4_ := f1_.symm; have f5_ := f3_.symm; clear f1_ f2_ f3_; subst f4_; subst f5_))
                            have p184 : 0 ≤ (x11_3 : Int) := od_ (by first | (with_reducible assumption) | assumption); have q184 : x11_3 < (y181.length : Int) := od_ (by first | (with_reducible assumption) | assumption); obtain ⟨ad184, e184, hx184_0⟩ := Kd.at_int (Kd.R_reads' HO_9.out).2.2 x11_3 p184 q184
                            cases e184
                            replace p184 := eq_true p184; replace q184 := eq_true q184; refine start_ (n := 20) (S := fun w' => w'.cell? (ad184.add (x11_3).toNat) = some (.int .i64 (rd y181 x11_3))) (ds := []) (mB_ 20 0) (by kernel_rfl) rfl rfl (hx184_0) (fun hHeld => ?_); refine with_tabW spec_CrossesIn.tab16 spec_CrossesIn.bits16 (fun HT_ HW_ => ?_); generalize wr.drew = w53 at HO_6 HO_9 BK170 BK177 HB hx184_0 hHeld ⊢; refine pure_ (i := 0) (N := some 61) (v := ?_) (a' := ?_) (mB_ 20 1) rfl rfl (any_of HT_.out (by kernel_rfl)) (fun _ _ _ h => h) (Or.inl ⟨by rfl, ?_⟩) ?_ ?_; rotate_left
                            ·
                             intro w'
                             go_simp
                             with_reducible rfl
                            rotate_left
                            ·
                             simp only [Act.put, z1_, z2_, z3_, i64_w, i32_w]
                             rfl
                            refine pure_ (i := 1) (N := some 62) (v := ?_) (a' := ?_) (mB_ 20 3) rfl rfl (any_of HT_.out (by kernel_rfl)) (fun _ _ _ h => h) (Or.inl ⟨by rfl, ?_⟩) ?_ ?_; rotate_left
                            ·
                             intro w'
                             go_simp
                             with_reducible rfl
                            rotate_left
                            ·
                             simp only [Act.put, z1_, z2_, z3_, i64_w, i32_w]
                             rfl
                            refine pure_ (i := 2) (N := some 63) (v := ?_) (a' := ?_) (mB_ 20 7) rfl rfl (any_of HT_.out (by kernel_rfl)) (fun _ _ _ h => h) (Or.inl ⟨by rfl, ?_⟩) ?_ ?_; rotate_left
                            ·
                             intro w'
                             go_simp
                             with_reducible rfl
                            rotate_left
                            ·
                             simp only [Act.put, z1_, z2_, z3_, i64_w, i32_w]
                             rfl
                            refine pure_ (i := 3) (N := some 64) (v := ?_) (a' := ?_) (mB_ 20 15) rfl rfl (any_of HT_.out (by kernel_rfl)) (fun _ _ _ h => h) (Or.inl ⟨by rfl, ?_⟩) ?_ ?_; rotate_left
                            ·
                             intro w'
                             go_simp
                             with_reducible rfl
                            rotate_left
                            ·
                             simp only [Act.put, z1_, z2_, z3_, i64_w, i32_w]
                             rfl
                            refine pure_ (i := 4) (N := some 65) (v := ?_) (a' := ?_) (mB_ 20 31) rfl rfl (any_of HT_.out (by kernel_rfl)) (fun _ _ _ h => h) (Or.inl ⟨by rfl, ?_⟩) ?_ ?_; rotate_left
                            ·
                             intro w'
                             go_simp
                             with_reducible rfl
                            rotate_left
                            ·
                             simp only [Act.put, z1_, z2_, z3_, i64_w, i32_w]
                             rfl
                            refine take_ (i := 5) (N := some 66) (v := ?_) (a' := ?_) (mB_ 20 63) rfl rfl (take_ofW HT_.out HW_.out (by kernel_rfl)) (fun _ _ _ h => h) (Or.inl ⟨by rfl, ?_⟩) hHeld ?_ ?_; rotate_left
                            ·
                             intro w' s0
                             go_simp
                             with_reducible rfl
                            rotate_left
                            ·
                             simp only [Act.put, z1_, z2_, z3_, i64_w, i32_w]
                             rfl
                            refine pure_ (i := 6) (N := some 67) (v := ?_) (a' := ?_) (mB_ 20 127) rfl rfl (any_of HT_.out (by kernel_rfl)) (fun _ _ _ h => h) (Or.inl ⟨by rfl, ?_⟩) ?_ ?_; rotate_left
                            ·
                             intro w'
                             go_simp
                             with_reducible rfl
                            rotate_left
                            ·
                             simp only [Act.put, z1_, z2_, z3_, i64_w, i32_w]
                             rfl
                            refine pure_ (i := 7) (N := some 68) (v := ?_) (a' := ?_) (mB_ 20 255) rfl rfl (any_of HT_.out (by kernel_rfl)) (fun _ _ _ h => h) (Or.inl ⟨by rfl, ?_⟩) ?_ ?_; rotate_left
                            ·
                             intro w'
                             go_simp
                             with_reducible rfl
                            rotate_left
                            ·
                             simp only [Act.put, z1_, z2_, z3_, i64_w, i32_w]
                             rfl
                            refine pure_ (i := 8) (N := some 69) (v := ?_) (a' := ?_) (mB_ 20 511) rfl rfl (any_of HT_.out (by kernel_rfl)) (fun _ _ _ h => h) (Or.inl ⟨by rfl, ?_⟩) ?_ ?_; rotate_left
                            ·
                             intro w'
                             go_simp
                             with_reducible rfl
                            rotate_left
                            ·
                             simp only [Act.put, z1_, z2_, z3_, i64_w, i32_w]
                             rfl
                            refine pure_ (i := 9) (N := some 70) (v := undef) (a' := ?_) (mB_ 20 1023) rfl rfl (any_of HT_.out (by kernel_rfl)) (fun _ _ _ h => h) (Or.inr ⟨by rfl, rfl⟩) ?_ ?_; rotate_left
                            ·
                             simp only [Act.put, z1_, z2_, z3_, i64_w, i32_w]
                             rfl
                            refine pure_ (i := 10) (N := some 71) (v := undef) (a' := ?_) (mB_ 20 2047) rfl rfl (any_of HT_.out (by kernel_rfl)) (fun _ _ _ h => h) (Or.inr ⟨by rfl, rfl⟩) ?_ ?_; rotate_left
                            ·
                             simp only [Act.put, z1_, z2_, z3_, i64_w, i32_w]
                             rfl
                            refine pure_ (i := 11) (N := some 72) (v := undef) (a' := ?_) (mB_ 20 4095) rfl rfl (any_of HT_.out (by kernel_rfl)) (fun _ _ _ h => h) (Or.inr ⟨by rfl, rfl⟩) ?_ ?_; rotate_left
                            ·
                             simp only [Act.put, z1_, z2_, z3_, i64_w, i32_w]
                             rfl
                            refine pure_ (i := 12) (N := some 73) (v := undef) (a' := ?_) (mB_ 20 8191) rfl rfl (any_of HT_.out (by kernel_rfl)) (fun _ _ _ h => h) (Or.inr ⟨by rfl, rfl⟩) ?_ ?_; rotate_left
                            ·
                             simp only [Act.put, z1_, z2_, z3_, i64_w, i32_w]
                             rfl
                            refine pure_ (i := 13) (N := some 74) (v := undef) (a' := ?_) (mB_ 20 16383) rfl rfl (any_of HT_.out (by kernel_rfl)) (fun _ _ _ h => h) (Or.inr ⟨by rfl, rfl⟩) ?_ ?_; rotate_left
                            ·
                             simp only [Act.put, z1_, z2_, z3_, i64_w, i32_w]
                             rfl
                            refine pure_ (i := 14) (N := some 75) (v := undef) (a' := ?_) (mB_ 20 32767) rfl rfl (any_of HT_.out (by kernel_rfl)) (fun _ _ _ h => h) (Or.inr ⟨by rfl, rfl⟩) ?_ ?_; rotate_left
                            ·
                             simp only [Act.put, z1_, z2_, z3_, i64_w, i32_w]
                             rfl
                            refine pure_ (i := 15) (N := some 76) (v := undef) (a' := ?_) (mB_ 20 65535) rfl rfl (any_of HT_.out (by kernel_rfl)) (fun _ _ _ h => h) (Or.inr ⟨by rfl, rfl⟩) ?_ ?_; rotate_left
                            ·
                             simp only [Act.put, z1_, z2_, z3_, i64_w, i32_w]
                             rfl
                            refine pure_ (i := 16) (N := some 77) (v := undef) (a' := ?_) (mB_ 20 131071) rfl rfl (any_of HT_.out (by kernel_rfl)) (fun _ _ _ h => h) (Or.inr ⟨by rfl, rfl⟩) ?_ ?_; rotate_left
                            ·
                             simp only [Act.put, z1_, z2_, z3_, i64_w, i32_w]
                             rfl
                            refine pure_ (i := 17) (N := some 78) (v := undef) (a' := ?_) (mB_ 20 262143) rfl rfl (any_of HT_.out (by kernel_rfl)) (fun _ _ _ h => h) (Or.inr ⟨by rfl, rfl⟩) ?_ ?_; rotate_left
                            ·
                             simp only [Act.put, z1_, z2_, z3_, i64_w, i32_w]
                             rfl
                            refine pure_ (i := 18) (N := some 79) (v := ?_) (a' := ?_) (mB_ 20 524287) rfl rfl (any_of HT_.out (by kernel_rfl)) (fun _ _ _ h => h) (Or.inl ⟨by rfl, ?_⟩) ?_ ?_; rotate_left
                            ·
                             intro w'
                             go_simp
                             with_reducible rfl
                            rotate_left
                            ·
                             simp only [Act.put, z1_, z2_, z3_, i64_w, i32_w]
                             rfl
                            refine pure_ (i := 19) (N := some 10) (v := ?_) (a' := ?_) (mB_ 20 1048575) rfl rfl (any_of HT_.out (by kernel_rfl)) (fun _ _ _ h => h) (Or.inl ⟨by rfl, ?_⟩) ?_ ?_; rotate_left
                            ·
                             intro w'
                             go_simp
                             with_reducible rfl
                            rotate_left
                            ·
                             simp only [Act.put, z1_, z2_, z3_, i64_w, i32_w]
                             rfl
                            refine done_ (done_of HT_.out (by kernel_rfl)) ?_
                            try go_wp2
                            go_roundg k3
                            case measure => have := HK1.out; have := HK2.out; have := HK3.out; omega
                            case rel => exact ⟨(false), (wrap64 (x11_3 + 1)), (by first | rfl | (simp; done) | (simp [*]; done)), (by first | rfl | (simp; done) | (simp [*]; done)), H', ⟨by have := HK1.out; have := HK2.out; have := HK3.out; omega⟩, ⟨by (with_reducible repeat (first | apply Kd.R_alloc | apply Kd.R_drewN | apply Kd.R_drew)); exact HO_6.out⟩, ⟨by (with_reducible repeat (first | apply Kd.R_alloc | apply Kd.R_drewN | apply Kd.R_drew)); exact HO_9.out⟩, ⟨by (with_reducible repeat (first | apply kN_ | apply kD_ | apply kA_)); exact BK170.out⟩, ⟨by (with_reducible repeat (first | apply kN_ | apply kD_ | apply kA_)); exact BK177.out⟩, ⟨by repeat (first | (with_reducible first | exact HB.out | apply bA_ | apply bN_ | apply bD_ | refine bS_ ?_ GE170.out | refine bS_ ?_ GE177.out) | exact HB.out)⟩⟩
                           ·
                            rw [if_neg c52] at H; have c52b0 : ((rd y181 x11_3) == 0) = false := beq_eq_false_iff_ne.mpr c52; have c52b1 : ((rd y181 x11_3) != 0) = true := bne_iff_ne.mpr c52; have c55b0 := eq_true (od_ (by first | (with_reducible assumption) | assumption) : 0 ≤ x11_3)
                            by_cases c56 : x11_3 ≤ (y181.length : Int)
                            ·
                             rw [if_pos c56] at H; have c56b0 := eq_true c56; have c56b1 : decide (x11_3 ≤ (y181.length : Int)) = true := decide_eq_true c56; clear c56; obtain ⟨y185, hy185⟩ : ∃ y_ : List Int, y_ = (y181.take (x11_3 : Int).toNat) := ⟨_, rfl⟩
                             replace H : ((spec_l00Has.f k3 y185 (rd y181 x11_3)).bind fun t190 => (spec_CrossesIn.l2 k3 x6_2 x7_1 x8_2 y181 (!t190) (wrap64 (x11_3 + 1)) a0_0 a0_1 l0_2 t175)) = some (r1, r2) := by first | (rw [hy185]; with_reducible exact H) | (have H2_ := (Option.bind_some _ _).symm.trans H; rw [hy185]; with_reducible exact H2_) | (have H2_ := (Option.bind_some _ _).symm.trans H; with_reducible exact H2_) | with_reducible exact H | (rw [hy185]; exact H) | exact H
                             have Ny185 := am_ hy185; clear hy185; replace H := Option.bind_eq_some_iff.mp H; obtain ⟨t190, A570, H⟩ := H; replace H : (spec_CrossesIn.l2 k3 x6_2 x7_1 x8_2 y181 (!t190) (wrap64 (x11_3 + 1)) a0_0 a0_1 l0_2 t175) = some (r1, r2) := H; have A57 := am_ A570; clear A570; have H' := am_ H; clear H
                             try go_wp2
                             have n0_ := am_ (Kd.R_drew HO_6.out); have n1_ := am_ (Kd.R_drew HO_9.out); have n2_ := am_ (kD_ BK170.out); have n3_ := am_ (kD_ BK177.out); have n4_ := am_ (bD_ HB.out); clear HO_6; clear HO_9; clear BK170; clear BK177; clear HB; have HO_6 := n0_; have HO_9 := n1_; have BK170 := n2_; have BK177 := n3_; have HB := n4_; clear n0_ n1_ n2_ n3_ n4_; obtain ⟨Ao59, co59, eo59⟩ := Kd.R_slice HO_9.out
                             (first | subst eo59 | (injection eo59 with f1_ f2_ f3_; have f4_ := f1_.symm; have f5_ := f3_.symm; clear f1_ f2_ f3_; subst f4_; subst f5_))
                             have p184 : 0 ≤ (x11_3 : Int) := od_ (by first | (with_reducible assumption) | assumption); have q184 : x11_3 < (y181.length : Int) := od_ (by first | (with_reducible assumption) | assumption); obtain ⟨ad184, e184, hx184_0⟩ := Kd.at_int (Kd.R_reads' HO_9.out).2.2 x11_3 p184 q184
                             cases e184
                             replace p184 := eq_true p184; replace q184 := eq_true q184; have q60 : (x11_3 : Int) ≤ ((y181.length : Int) : Int) := od_ (by first | (with_reducible assumption) | assumption); obtain ⟨i060, hi060, _, hsz60, _⟩ := info_parts info2; have hroom60 : y181.length ≤ co59 := (Kd.R_reads' HO_9.out).2.1; have hC60 : Kd.C (Kd.int .i64) _ (some ad184) y181.length y181 := (Kd.R_reads' HO_9.out).2.2; have hcut60 := cut_to (P := Try.prog) 63 2 .i64 Try.underlying63 hi060 (some ad184) y181.length co59 x11_3 (od_ (by first | (with_reducible assumption) | assumption)) q60 hroom60; have hr60 := Kd.C_take (m := (x11_3 : Int).toNat) hC60 (by omega); have hy60 : y185.length = (x11_3 : Int).toNat := (by rw [Ny185.out, List.length_take]; omega)
                             rw [← Ny185.out] at hr60; rw [← hy60] at hcut60; have HR188 := am_ hr60; have HC188 := am_ (show y185.length ≤ co59 from by omega); clear hr60 hC60 hroom60 hi060 hsz60; have KY60 := am_ hy60; clear hy60; have KL60 := am_ (show (x11_3 : Int).toNat ≤ y181.length from by omega); replace q60 := eq_true q60; have p189 : 0 ≤ (x11_3 : Int) := od_ (by first | (with_reducible assumption) | assumption); have q189 : x11_3 < (y181.length : Int) := od_ (by first | (with_reducible assumption) | assumption); obtain ⟨ad189, e189, hx189_0⟩ := Kd.at_int (Kd.R_reads' HO_9.out).2.2 x11_3 p189 q189; obtain rfl : ad184 = ad189 := (by injection e189)
                             replace p189 := eq_true p189; replace q189 := eq_true q189; refine start_ (n := 20) (S := fun w' => w'.cell? (ad184.add (x11_3).toNat) = some (.int .i64 (rd y181 x11_3)) ∧ w'.cell? (ad184.add (x11_3).toNat) = some (.int .i64 (rd y181 x11_3))) (ds := []) (mB_ 20 0) (by kernel_rfl) rfl rfl ⟨hx184_0, hx189_0⟩ (fun hHeld => ?_); refine with_tabW spec_CrossesIn.tab16 spec_CrossesIn.bits16 (fun HT_ HW_ => ?_); generalize wr.drew = w58 at HO_6 HO_9 BK170 BK177 HB HR188 hx184_0 hx189_0 hHeld ⊢; refine pure_ (i := 0) (N := some 61) (v := ?_) (a' := ?_) (mB_ 20 1) rfl rfl (any_of HT_.out (by kernel_rfl)) (fun _ _ _ h => h) (Or.inl ⟨by rfl, ?_⟩) ?_ ?_; rotate_left
                             ·
                              intro w'
                              go_simp
                              with_reducible rfl
                             rotate_left
                             ·
                              simp only [Act.put, z1_, z2_, z3_, i64_w, i32_w]
                              rfl
                             refine pure_ (i := 1) (N := some 62) (v := ?_) (a' := ?_) (mB_ 20 3) rfl rfl (any_of HT_.out (by kernel_rfl)) (fun _ _ _ h => h) (Or.inl ⟨by rfl, ?_⟩) ?_ ?_; rotate_left
                             ·
                              intro w'
                              go_simp
                              with_reducible rfl
                             rotate_left
                             ·
                              simp only [Act.put, z1_, z2_, z3_, i64_w, i32_w]
                              rfl
                             refine pure_ (i := 2) (N := some 63) (v := ?_) (a' := ?_) (mB_ 20 7) rfl rfl (any_of HT_.out (by kernel_rfl)) (fun _ _ _ h => h) (Or.inl ⟨by rfl, ?_⟩) ?_ ?_; rotate_left
                             ·
                              intro w'
                              go_simp
                              with_reducible rfl
                             rotate_left
                             ·
                              simp only [Act.put, z1_, z2_, z3_, i64_w, i32_w]
                              rfl
                             refine pure_ (i := 3) (N := some 64) (v := ?_) (a' := ?_) (mB_ 20 15) rfl rfl (any_of HT_.out (by kernel_rfl)) (fun _ _ _ h => h) (Or.inl ⟨by rfl, ?_⟩) ?_ ?_; rotate_left
                             ·
                              intro w'
                              go_simp
                              with_reducible rfl
                             rotate_left
                             ·
                              simp only [Act.put, z1_, z2_, z3_, i64_w, i32_w]
                              rfl
                             refine pure_ (i := 4) (N := some 65) (v := ?_) (a' := ?_) (mB_ 20 31) rfl rfl (any_of HT_.out (by kernel_rfl)) (fun _ _ _ h => h) (Or.inl ⟨by rfl, ?_⟩) ?_ ?_; rotate_left
                             ·
                              intro w'
                              go_simp
                              with_reducible rfl
                             rotate_left
                             ·
                              simp only [Act.put, z1_, z2_, z3_, i64_w, i32_w]
                              rfl
                             refine take_ (i := 5) (N := some 66) (v := ?_) (a' := ?_) (mB_ 20 63) rfl rfl (take_ofW HT_.out HW_.out (by kernel_rfl)) (fun _ _ _ h => h) (Or.inl ⟨by rfl, ?_⟩) hHeld ?_ ?_; rotate_left
                             ·
                              rintro w' ⟨s0, s1⟩
                              go_simp
                              with_reducible rfl
                             rotate_left
                             ·
                              simp only [Act.put, z1_, z2_, z3_, i64_w, i32_w]
                              rfl
                             refine pure_ (i := 6) (N := some 67) (v := ?_) (a' := ?_) (mB_ 20 127) rfl rfl (any_of HT_.out (by kernel_rfl)) (fun _ _ _ h => h) (Or.inl ⟨by rfl, ?_⟩) ?_ ?_; rotate_left
                             ·
                              intro w'
                              go_simp
                              with_reducible rfl
                             rotate_left
                             ·
                              simp only [Act.put, z1_, z2_, z3_, i64_w, i32_w]
                              rfl
                             refine pure_ (i := 7) (N := some 68) (v := ?_) (a' := ?_) (mB_ 20 255) rfl rfl (any_of HT_.out (by kernel_rfl)) (fun _ _ _ h => h) (Or.inl ⟨by rfl, ?_⟩) ?_ ?_; rotate_left
                             ·
                              intro w'
                              go_simp
                              with_reducible rfl
                             rotate_left
                             ·
                              simp only [Act.put, z1_, z2_, z3_, i64_w, i32_w]
                              rfl
                             refine pure_ (i := 8) (N := some 69) (v := ?_) (a' := ?_) (mB_ 20 511) rfl rfl (any_of HT_.out (by kernel_rfl)) (fun _ _ _ h => h) (Or.inl ⟨by rfl, ?_⟩) ?_ ?_; rotate_left
                             ·
                              intro w'
                              go_simp
                              with_reducible rfl
                             rotate_left
                             ·
                              simp only [Act.put, z1_, z2_, z3_, i64_w, i32_w]
                              rfl
                             refine pure_ (i := 9) (N := some 70) (v := ?_) (a' := ?_) (mB_ 20 1023) rfl rfl (any_of HT_.out (by kernel_rfl)) (fun _ _ _ h => h) (Or.inl ⟨by rfl, ?_⟩) ?_ ?_; rotate_left
                             ·
                              intro w'
                              go_simp
                              with_reducible rfl
                             rotate_left
                             ·
                              simp only [Act.put, z1_, z2_, z3_, i64_w, i32_w]
                              rfl
                             refine pure_ (i := 10) (N := some 71) (v := ?_) (a' := ?_) (mB_ 20 2047) rfl rfl (any_of HT_.out (by kernel_rfl)) (fun _ _ _ h => h) (Or.inl ⟨by rfl, ?_⟩) ?_ ?_; rotate_left
                             ·
                              intro w'
                              go_simp
                              with_reducible rfl
                             rotate_left
                             ·
                              simp only [Act.put, z1_, z2_, z3_, i64_w, i32_w]
                              rfl
                             refine pure_ (i := 11) (N := some 72) (v := ?_) (a' := ?_) (mB_ 20 4095) rfl rfl (any_of HT_.out (by kernel_rfl)) (fun _ _ _ h => h) (Or.inl ⟨by rfl, ?_⟩) ?_ ?_; rotate_left
                             ·
                              intro w'
                              go_simp
                              with_reducible rfl
                             rotate_left
                             ·
                              simp only [Act.put, z1_, z2_, z3_, i64_w, i32_w]
                              rfl
                             refine pure_ (i := 12) (N := some 73) (v := ?_) (a' := ?_) (mB_ 20 8191) rfl rfl (any_of HT_.out (by kernel_rfl)) (fun _ _ _ h => h) (Or.inl ⟨by rfl, ?_⟩) ?_ ?_; rotate_left
                             ·
                              intro w'
                              go_simp
                              with_reducible rfl
                             rotate_left
                             ·
                              simp only [Act.put, z1_, z2_, z3_, i64_w, i32_w]
                              rfl
                             refine pure_ (i := 13) (N := some 74) (v := ?_) (a' := ?_) (mB_ 20 16383) rfl rfl (any_of HT_.out (by kernel_rfl)) (fun _ _ _ h => h) (Or.inl ⟨by rfl, ?_⟩) ?_ ?_; rotate_left
                             ·
                              intro w'
                              go_simp
                              with_reducible rfl
                             rotate_left
                             ·
                              simp only [Act.put, z1_, z2_, z3_, i64_w, i32_w]
                              rfl
                             refine pure_ (i := 14) (N := some 75) (v := ?_) (a' := ?_) (mB_ 20 32767) rfl rfl (any_of HT_.out (by kernel_rfl)) (fun _ _ _ h => h) (Or.inl ⟨by rfl, ?_⟩) ?_ ?_; rotate_left
                             ·
                              intro w'
                              go_simp
                              with_reducible rfl
                             rotate_left
                             ·
                              simp only [Act.put, z1_, z2_, z3_, i64_w, i32_w]
                              rfl
                             refine take_ (i := 15) (N := some 76) (v := ?_) (a' := ?_) (mB_ 20 65535) rfl rfl (take_ofW HT_.out HW_.out (by kernel_rfl)) (fun _ _ _ h => h) (Or.inl ⟨by rfl, ?_⟩) hHeld ?_ ?_; rotate_left
                             ·
                              rintro w' ⟨s0, s1⟩
                              go_simp
                              with_reducible rfl
                             rotate_left
                             ·
                              simp only [Act.put, z1_, z2_, z3_, i64_w, i32_w]
                              rfl
                             refine one_ (i := 16) (N := some 77) (mB_ 20 131071) rfl rfl (one_of HT_.out (by kernel_rfl)) (by decide) (fun K hK => ?_); refine goes_ Try.func32 (by kernel_rfl) rfl #[.slice (some ad184) y185.length co59, .int .i64 (rd y181 x11_3)] (by rfl) rfl rfl (by (try simp only [List.map_toArray, List.map_cons, List.map_nil]); first | done | rfl | (simp only [List.length_drop, List.length_take]; rfl)) ?_
                             with_reducible refine (spec_l00Has.calls k3 _ _ y185 (rd y181 x11_3) t190 _ ?side1 ?side2 A57.out).mono ?_
                             (case side1 => repeat (first | exact (by repeat (first | (with_reducible exact HR188.out) | (with_reducible refine Kd.C_alloc ?_ _) | (with_reducible refine Kd.C_drewN ?_ _) | (with_reducible refine Kd.C_drew ?_) | exact HR188.out)) | (with_reducible refine Kd.C_alloc ?_ _) | (with_reducible refine Kd.C_drewN ?_ _) | (with_reducible refine Kd.C_drew ?_)))
                             (case side2 => exact HC188.out)
                             rintro e w' ⟨rfl, ⟨nd, rfl⟩⟩; refine ⟨_, rfl, ?_⟩; refine hK.out _ _ ⟨hHeld.1, hHeld.2⟩ (fun hHeld => ?_); clear hK K; refine norm_ (a' := ?_) ?_ ?_; rotate_left
                             ·
                              show Act.put _ (some 77) _ = _
                              simp only [Act.put, z1_, z2_, z3_, i64_w, i32_w]
                              rfl
                             refine pure_ (i := 17) (N := some 78) (v := ?_) (a' := ?_) (mB_ 20 262143) rfl rfl (any_of HT_.out (by kernel_rfl)) (fun _ _ _ h => h) (Or.inl ⟨by rfl, ?_⟩) ?_ ?_; rotate_left
                             ·
                              intro w'
                              go_simp
                              with_reducible rfl
                             rotate_left
                             ·
                              simp only [Act.put, z1_, z2_, z3_, i64_w, i32_w]
                              rfl
                             refine pure_ (i := 18) (N := some 79) (v := ?_) (a' := ?_) (mB_ 20 524287) rfl rfl (any_of HT_.out (by kernel_rfl)) (fun _ _ _ h => h) (Or.inl ⟨by rfl, ?_⟩) ?_ ?_; rotate_left
                             ·
                              intro w'
                              go_simp
                              with_reducible rfl
                             rotate_left
                             ·
                              simp only [Act.put, z1_, z2_, z3_, i64_w, i32_w]
                              rfl
                             refine pure_ (i := 19) (N := some 10) (v := ?_) (a' := ?_) (mB_ 20 1048575) rfl rfl (any_of HT_.out (by kernel_rfl)) (fun _ _ _ h => h) (Or.inl ⟨by rfl, ?_⟩) ?_ ?_; rotate_left
                             ·
                              intro w'
                              go_simp
                              with_reducible rfl
                             rotate_left
                             ·
                              simp only [Act.put, z1_, z2_, z3_, i64_w, i32_w]
                              rfl
                             refine done_ (done_of HT_.out (by kernel_rfl)) ?_
                             try go_wp2
                             go_roundg k3
                             case measure => have := HK1.out; have := HK2.out; have := HK3.out; omega
                             case rel => exact ⟨(!t190), (wrap64 (x11_3 + 1)), (by first | rfl | (simp; done) | (simp [*]; done)), (by first | rfl | (simp; done) | (simp [*]; done)), H', ⟨by have := HK1.out; have := HK2.out; have := HK3.out; omega⟩, ⟨by (with_reducible repeat (first | apply Kd.R_alloc | apply Kd.R_drewN | apply Kd.R_drew)); exact HO_6.out⟩, ⟨by (with_reducible repeat (first | apply Kd.R_alloc | apply Kd.R_drewN | apply Kd.R_drew)); exact HO_9.out⟩, ⟨by (with_reducible repeat (first | apply kN_ | apply kD_ | apply kA_)); exact BK170.out⟩, ⟨by (with_reducible repeat (first | apply kN_ | apply kD_ | apply kA_)); exact BK177.out⟩, ⟨by repeat (first | (with_reducible first | exact HB.out | apply bA_ | apply bN_ | apply bD_ | refine bS_ ?_ GE170.out | refine bS_ ?_ GE177.out) | exact HB.out)⟩⟩
                            ·
                             rw [if_neg c56] at H; exact absurd H (by simp)
                          ·
                           rw [if_neg c51] at H; exact absurd H (by simp)
                         ·
                          rw [if_neg c50] at H; exact absurd H (by simp)
                        ·
                         replace c49 := Bool.eq_false_iff.mpr c49; subst c49; have H1 : (spec_CrossesIn.l2 k3 x6_2 x7_1 x8_2 y181 false (wrap64 (x11_3 + 1)) a0_0 a0_1 l0_2 t175) = some (r1, r2) := by rw [if_neg (show ¬ (false = true) by decide)] at H; exact H
                         clear H; have H := H1; clear H1; have H' := am_ H; clear H
                         try go_wp2
                         have n0_ := am_ (Kd.R_drew HO_6.out); have n1_ := am_ (Kd.R_drew HO_9.out); have n2_ := am_ (kD_ BK170.out); have n3_ := am_ (kD_ BK177.out); have n4_ := am_ (bD_ HB.out); clear HO_6; clear HO_9; clear BK170; clear BK177; clear HB; have HO_6 := n0_; have HO_9 := n1_; have BK170 := n2_; have BK177 := n3_; have HB := n4_; clear n0_ n1_ n2_ n3_ n4_; refine start_ (n := 20) (S := fun w' => True) (ds := []) (mB_ 20 0) (by kernel_rfl) rfl rfl trivial (fun hHeld => ?_); refine with_tabW spec_CrossesIn.tab16 spec_CrossesIn.bits16 (fun HT_ HW_ => ?_); generalize wr.drew = w61 at HO_6 HO_9 BK170 BK177 HB hHeld ⊢; refine pure_ (i := 0) (N := some 61) (v := ?_) (a' := ?_) (mB_ 20 1) rfl rfl (any_of HT_.out (by kernel_rfl)) (fun _ _ _ h => h) (Or.inl ⟨by rfl, ?_⟩) ?_ ?_; rotate_left
                         ·
                          intro w'
                          go_simp
                          with_reducible rfl
                         rotate_left
                         ·
                          simp only [Act.put, z1_, z2_, z3_, i64_w, i32_w]
                          rfl
                         refine pure_ (i := 1) (N := some 62) (v := ?_) (a' := ?_) (mB_ 20 3) rfl rfl (any_of HT_.out (by kernel_rfl)) (fun _ _ _ h => h) (Or.inl ⟨by rfl, ?_⟩) ?_ ?_; rotate_left
                         ·
                          intro w'
                          go_simp
                          with_reducible rfl
                         rotate_left
                         ·
                          simp only [Act.put, z1_, z2_, z3_, i64_w, i32_w]
                          rfl
                         refine pure_ (i := 2) (N := some 63) (v := undef) (a' := ?_) (mB_ 20 7) rfl rfl (any_of HT_.out (by kernel_rfl)) (fun _ _ _ h => h) (Or.inr ⟨by rfl, rfl⟩) ?_ ?_; rotate_left
                         ·
                          simp only [Act.put, z1_, z2_, z3_, i64_w, i32_w]
                          rfl
                         refine pure_ (i := 3) (N := some 64) (v := undef) (a' := ?_) (mB_ 20 15) rfl rfl (any_of HT_.out (by kernel_rfl)) (fun _ _ _ h => h) (Or.inr ⟨by rfl, rfl⟩) ?_ ?_; rotate_left
                         ·
                          simp only [Act.put, z1_, z2_, z3_, i64_w, i32_w]
                          rfl
                         refine pure_ (i := 4) (N := some 65) (v := undef) (a' := ?_) (mB_ 20 31) rfl rfl (any_of HT_.out (by kernel_rfl)) (fun _ _ _ h => h) (Or.inr ⟨by rfl, rfl⟩) ?_ ?_; rotate_left
                         ·
                          simp only [Act.put, z1_, z2_, z3_, i64_w, i32_w]
                          rfl
                         refine pure_ (i := 5) (N := some 66) (v := undef) (a' := ?_) (mB_ 20 63) rfl rfl (any_of HT_.out (by kernel_rfl)) (fun _ _ _ h => h) (Or.inr ⟨by rfl, rfl⟩) ?_ ?_; rotate_left
                         ·
                          simp only [Act.put, z1_, z2_, z3_, i64_w, i32_w]
                          rfl
                         refine pure_ (i := 6) (N := some 67) (v := undef) (a' := ?_) (mB_ 20 127) rfl rfl (any_of HT_.out (by kernel_rfl)) (fun _ _ _ h => h) (Or.inr ⟨by rfl, rfl⟩) ?_ ?_; rotate_left
                         ·
                          simp only [Act.put, z1_, z2_, z3_, i64_w, i32_w]
                          rfl
                         refine pure_ (i := 7) (N := some 68) (v := ?_) (a' := ?_) (mB_ 20 255) rfl rfl (any_of HT_.out (by kernel_rfl)) (fun _ _ _ h => h) (Or.inl ⟨by rfl, ?_⟩) ?_ ?_; rotate_left
                         ·
                          intro w'
                          go_simp
                          with_reducible rfl
                         rotate_left
                         ·
                          simp only [Act.put, z1_, z2_, z3_, i64_w, i32_w]
                          rfl
                         refine pure_ (i := 8) (N := some 69) (v := ?_) (a' := ?_) (mB_ 20 511) rfl rfl (any_of HT_.out (by kernel_rfl)) (fun _ _ _ h => h) (Or.inl ⟨by rfl, ?_⟩) ?_ ?_; rotate_left
                         ·
                          intro w'
                          go_simp
                          with_reducible rfl
                         rotate_left
                         ·
                          simp only [Act.put, z1_, z2_, z3_, i64_w, i32_w]
                          rfl
                         refine pure_ (i := 9) (N := some 70) (v := undef) (a' := ?_) (mB_ 20 1023) rfl rfl (any_of HT_.out (by kernel_rfl)) (fun _ _ _ h => h) (Or.inr ⟨by rfl, rfl⟩) ?_ ?_; rotate_left
                         ·
                          simp only [Act.put, z1_, z2_, z3_, i64_w, i32_w]
                          rfl
                         refine pure_ (i := 10) (N := some 71) (v := undef) (a' := ?_) (mB_ 20 2047) rfl rfl (any_of HT_.out (by kernel_rfl)) (fun _ _ _ h => h) (Or.inr ⟨by rfl, rfl⟩) ?_ ?_; rotate_left
                         ·
                          simp only [Act.put, z1_, z2_, z3_, i64_w, i32_w]
                          rfl
                         refine pure_ (i := 11) (N := some 72) (v := undef) (a' := ?_) (mB_ 20 4095) rfl rfl (any_of HT_.out (by kernel_rfl)) (fun _ _ _ h => h) (Or.inr ⟨by rfl, rfl⟩) ?_ ?_; rotate_left
                         ·
                          simp only [Act.put, z1_, z2_, z3_, i64_w, i32_w]
                          rfl
                         refine pure_ (i := 12) (N := some 73) (v := undef) (a' := ?_) (mB_ 20 8191) rfl rfl (any_of HT_.out (by kernel_rfl)) (fun _ _ _ h => h) (Or.inr ⟨by rfl, rfl⟩) ?_ ?_; rotate_left
                         ·
                          simp only [Act.put, z1_, z2_, z3_, i64_w, i32_w]
                          rfl
                         refine pure_ (i := 13) (N := some 74) (v := undef) (a' := ?_) (mB_ 20 16383) rfl rfl (any_of HT_.out (by kernel_rfl)) (fun _ _ _ h => h) (Or.inr ⟨by rfl, rfl⟩) ?_ ?_; rotate_left
                         ·
                          simp only [Act.put, z1_, z2_, z3_, i64_w, i32_w]
                          rfl
                         refine pure_ (i := 14) (N := some 75) (v := undef) (a' := ?_) (mB_ 20 32767) rfl rfl (any_of HT_.out (by kernel_rfl)) (fun _ _ _ h => h) (Or.inr ⟨by rfl, rfl⟩) ?_ ?_; rotate_left
                         ·
                          simp only [Act.put, z1_, z2_, z3_, i64_w, i32_w]
                          rfl
                         refine pure_ (i := 15) (N := some 76) (v := undef) (a' := ?_) (mB_ 20 65535) rfl rfl (any_of HT_.out (by kernel_rfl)) (fun _ _ _ h => h) (Or.inr ⟨by rfl, rfl⟩) ?_ ?_; rotate_left
                         ·
                          simp only [Act.put, z1_, z2_, z3_, i64_w, i32_w]
                          rfl
                         refine pure_ (i := 16) (N := some 77) (v := undef) (a' := ?_) (mB_ 20 131071) rfl rfl (any_of HT_.out (by kernel_rfl)) (fun _ _ _ h => h) (Or.inr ⟨by rfl, rfl⟩) ?_ ?_; rotate_left
                         ·
                          simp only [Act.put, z1_, z2_, z3_, i64_w, i32_w]
                          rfl
                         refine pure_ (i := 17) (N := some 78) (v := undef) (a' := ?_) (mB_ 20 262143) rfl rfl (any_of HT_.out (by kernel_rfl)) (fun _ _ _ h => h) (Or.inr ⟨by rfl, rfl⟩) ?_ ?_; rotate_left
                         ·
                          simp only [Act.put, z1_, z2_, z3_, i64_w, i32_w]
                          rfl
                         refine pure_ (i := 18) (N := some 79) (v := ?_) (a' := ?_) (mB_ 20 524287) rfl rfl (any_of HT_.out (by kernel_rfl)) (fun _ _ _ h => h) (Or.inl ⟨by rfl, ?_⟩) ?_ ?_; rotate_left
                         ·
                          intro w'
                          go_simp
                          with_reducible rfl
                         rotate_left
                         ·
                          simp only [Act.put, z1_, z2_, z3_, i64_w, i32_w]
                          rfl
                         refine pure_ (i := 19) (N := some 10) (v := ?_) (a' := ?_) (mB_ 20 1048575) rfl rfl (any_of HT_.out (by kernel_rfl)) (fun _ _ _ h => h) (Or.inl ⟨by rfl, ?_⟩) ?_ ?_; rotate_left
                         ·
                          intro w'
                          go_simp
                          with_reducible rfl
                         rotate_left
                         ·
                          simp only [Act.put, z1_, z2_, z3_, i64_w, i32_w]
                          rfl
                         refine done_ (done_of HT_.out (by kernel_rfl)) ?_
                         try go_wp2
                         go_roundg k3
                         case measure => have := HK1.out; have := HK2.out; have := HK3.out; omega
                         case rel => exact ⟨(false), (wrap64 (x11_3 + 1)), (by first | rfl | (simp; done) | (simp [*]; done)), (by first | rfl | (simp; done) | (simp [*]; done)), H', ⟨by have := HK1.out; have := HK2.out; have := HK3.out; omega⟩, ⟨by (with_reducible repeat (first | apply Kd.R_alloc | apply Kd.R_drewN | apply Kd.R_drew)); exact HO_6.out⟩, ⟨by (with_reducible repeat (first | apply Kd.R_alloc | apply Kd.R_drewN | apply Kd.R_drew)); exact HO_9.out⟩, ⟨by (with_reducible repeat (first | apply kN_ | apply kD_ | apply kA_)); exact BK170.out⟩, ⟨by (with_reducible repeat (first | apply kN_ | apply kD_ | apply kA_)); exact BK177.out⟩, ⟨by repeat (first | (with_reducible first | exact HB.out | apply bA_ | apply bN_ | apply bD_ | refine bS_ ?_ GE170.out | refine bS_ ?_ GE177.out) | exact HB.out)⟩⟩
                       ·
                        rw [if_neg c48] at H; have c48b0 : decide (x11_3 < 4) = false := decide_eq_false c48; clear c48
                        by_cases c62 : x10_3 = true
                        ·
                         subst c62; have H1 : (if x6_2.length < 70368744177664 then (spec_CrossesIn.l1 k3 (x6_2 ++ [(⟨x8_2, x7_1⟩ : S66)]) x7_1 (IntKind.i8.wrap (x8_2 + 1)) a0_0 a0_1 l0_2 t175) else (none)) = some (r1, r2) := by rw [if_pos rfl] at H; exact H
                         clear H; have H := H1; clear H1
                         by_cases c63 : x6_2.length < 70368744177664
                         ·
                          rw [if_pos c63] at H; have LMc63 := am_ c63; clear c63; obtain ⟨y191, hy191⟩ : ∃ y_ : List (S66), y_ = (x6_2 ++ [(⟨x8_2, x7_1⟩ : S66)]) := ⟨_, rfl⟩
                          replace H : (spec_CrossesIn.l1 k3 y191 x7_1 (IntKind.i8.wrap (x8_2 + 1)) a0_0 a0_1 l0_2 t175) = some (r1, r2) := by first | (rw [hy191]; with_reducible exact H) | (have H2_ := (Option.bind_some _ _).symm.trans H; rw [hy191]; with_reducible exact H2_) | (have H2_ := (Option.bind_some _ _).symm.trans H; with_reducible exact H2_) | with_reducible exact H | (rw [hy191]; exact H) | exact H
                          have Ny191 := am_ hy191; clear hy191; have H' := am_ H; clear H
                          go_wp2_with (first | ((with_reducible refine gate_builtin (b := .append) (xs := #[.tmp 81, .tmp 85]) rfl ?_); at_builtin; refine Kd.R_append k66 (w0 := w) w.heap.size rfl (.tmp 81) (.tmp 85) 39 66 (.agg #[(.int .i8 0), (.int .i8 0)]) 2 rfl Try.underlying39 info66 rfl (by decide) (by omega) u6 x6_2 (⟨x8_2, x7_1⟩ : S66) [.int .i8 x8_2, .int .i8 x7_1] (fun _ => True) (fun _ => False) rfl rfl ?aP (fun _ hk => hk.elim) ?aF ?aO ?aB ?aS ?aL ?_; (case aP => exact k66_mkM _ _ _ (⟨x8_2, x7_1⟩ : S66)); (case aB => exact (by repeat (first | (with_reducible first | exact HB.out | apply bA_ | apply bN_ | apply bD_ | refine bS_ ?_ GE170.out | refine bS_ ?_ GE177.out) | exact HB.out))); (case aF => exact (fun _ _ => trivial)); (case aO => exact (by (with_reducible repeat (first | apply Kd.R_alloc | apply Kd.R_drewN | apply Kd.R_drew)); exact HO_6.out)); (case aS => exact (bZ_ (by repeat (first | (with_reducible first | exact HB.out | apply bA_ | apply bN_ | apply bD_ | refine bS_ ?_ GE170.out | refine bS_ ?_ GE177.out) | exact HB.out)))); (case aL => have := LMc63.out; omega); intro v192 w64 ho hb hg hat; rw [← Ny191.out] at ho; have n0_ := am_ (Kd.R_over' (by (with_reducible repeat (first | apply Kd.R_alloc | apply Kd.R_drewN | apply Kd.R_drew)); exact HO_9.out) (Kd.R_typed (by (with_reducible repeat (first | apply Kd.R_alloc | apply Kd.R_drewN | apply Kd.R_drew)); exact HO_6.out)) (by decide) hg); have n1_ := am_ (blk_grown (g := gb170) (o := .cells #[.int .i8 a0_0, .int .i8 a0_1, .slice A0_2 l0_2.length c0_2] 29 (0, 0)) (by (with_reducible repeat (first | apply kN_ | apply kD_ | apply kA_)); exact BK170.out) hg (Kd.R_ne HO_6.out BK170.out (by decide))); have n2_ := am_ (blk_grown (g := gb177) (o := .cells (arrC .i64 t175) 60 (0, 0)) (by (with_reducible repeat (first | apply kN_ | apply kD_ | apply kA_)); exact BK177.out) hg (Kd.R_ne HO_6.out BK177.out (by decide))); have n3_ := am_ (hb); have n4_ := am_ (ho); clear HO_9; clear BK170; clear BK177; clear HB; clear HO_6; have HO_9 := n0_; have BK170 := n1_; have BK177 := n2_; have HB := n3_; have HO193 := n4_; clear n0_ n1_ n2_ n3_ n4_; clear ho hb hg hat))
                          go_roundg k3
                          case measure => have := HK1.out; have := HK2.out; have := HK3.out; omega
                          case rel => exact ⟨(y191), (IntKind.i8.wrap (x8_2 + 1)), (by first | rfl | (simp; done) | (simp [*]; done)), H', ⟨by have := HK1.out; have := HK2.out; have := HK3.out; omega⟩, ⟨by (with_reducible repeat (first | apply Kd.R_alloc | apply Kd.R_drewN | apply Kd.R_drew)); exact HO193.out⟩, ⟨by (with_reducible repeat (first | apply kN_ | apply kD_ | apply kA_)); exact BK170.out⟩, ⟨by (with_reducible repeat (first | apply kN_ | apply kD_ | apply kA_)); exact BK177.out⟩, ⟨by repeat (first | (with_reducible first | exact HB.out | apply bA_ | apply bN_ | apply bD_ | refine bS_ ?_ GE170.out | refine bS_ ?_ GE177.out) | exact HB.out)⟩⟩
                         ·
                          rw [if_neg c63] at H; exact absurd H (by simp)
                        ·
                         replace c62 := Bool.eq_false_iff.mpr c62; subst c62; have H1 : (spec_CrossesIn.l1 k3 x6_2 x7_1 (IntKind.i8.wrap (x8_2 + 1)) a0_0 a0_1 l0_2 t175) = some (r1, r2) := by rw [if_neg (show ¬ (false = true) by decide)] at H; exact H
                         clear H; have H := H1; clear H1; have H' := am_ H; clear H
                         go_wp2
                         go_roundg k3
                         case measure => have := HK1.out; have := HK2.out; have := HK3.out; omega
                         case rel => exact ⟨(x6_2), (IntKind.i8.wrap (x8_2 + 1)), (by first | rfl | (simp; done) | (simp [*]; done)), H', ⟨by have := HK1.out; have := HK2.out; have := HK3.out; omega⟩, ⟨by (with_reducible repeat (first | apply Kd.R_alloc | apply Kd.R_drewN | apply Kd.R_drew)); exact HO_6.out⟩, ⟨by (with_reducible repeat (first | apply kN_ | apply kD_ | apply kA_)); exact BK170.out⟩, ⟨by (with_reducible repeat (first | apply kN_ | apply kD_ | apply kA_)); exact BK177.out⟩, ⟨by repeat (first | (with_reducible first | exact HB.out | apply bA_ | apply bN_ | apply bD_ | refine bS_ ?_ GE170.out | refine bS_ ?_ GE177.out) | exact HB.out)⟩⟩
                    ·
                     rw [if_neg c38] at H; exact absurd H (by simp)
                   ·
                    rw [if_neg c35] at H; exact absurd H (by simp)
                  ·
                   rw [if_neg c32] at H; exact absurd H (by simp)
                 ·
                  rw [if_neg c31] at H; exact absurd H (by simp)
                ·
                 rw [if_neg c30] at H; exact absurd H (by simp)
               ·
                rw [if_neg c28] at H; exact absurd H (by simp)
              ·
               rw [if_neg c27] at H; exact absurd H (by simp)
             ·
              rw [if_neg c25] at H; exact absurd H (by simp)
            ·
             rw [if_neg c23] at H; exact absurd H (by simp)
           ·
            rw [if_neg c22] at H; exact absurd H (by simp)
          ·
           rw [if_neg c19] at H; exact absurd H (by simp)
         ·
          rw [if_neg c18] at H; exact absurd H (by simp)
        ·
         rw [if_neg c16] at H; have c16b0 : decide (x8_2 < a0_0) = false := decide_eq_false c16; clear c16; have H' := am_ H; clear H; have hnb65 := NB170_177.out; have hnc65 := NB177_170.out; have hcz66_0 : wr.cell? ⟨gb170, 0, none⟩ = some (.int .i8 a0_0) := (kC_ BK170.out 0).trans rfl; have hcz66_1 : wr.cell? ⟨gb170, 1, none⟩ = some (.int .i8 a0_1) := (kC_ BK170.out 1).trans rfl; have hcz66_2 : wr.cell? ⟨gb170, 2, none⟩ = some (.slice A0_2 l0_2.length c0_2) := (kC_ BK170.out 2).trans rfl; have hfz66_0 := kF_ BK170.out 0; have hfz66_1 := kF_ BK170.out 1; have hfz66_2 := kF_ BK170.out 2
         go_wp2
         go_roundg k2
         case measure => have := HK1.out; have := HK2.out; omega
         case rel => exact ⟨(x6_2), (IntKind.i8.wrap (x7_1 + 1)), (by first | rfl | (simp; done) | (simp [*]; done)), H', ⟨by have := HK1.out; have := HK2.out; omega⟩, ⟨by (with_reducible repeat (first | apply Kd.R_alloc | apply Kd.R_drewN | apply Kd.R_drew)); exact HO_6.out⟩, ⟨by (with_reducible repeat (first | apply kN_ | apply kD_ | apply kA_)); exact BK170.out⟩, ⟨by (with_reducible repeat (first | apply kN_ | apply kD_ | apply kA_)); exact BK177.out⟩, ⟨by repeat (first | (with_reducible first | exact HB.out | apply bA_ | apply bN_ | apply bD_ | refine bS_ ?_ GE170.out | refine bS_ ?_ GE177.out) | exact HB.out)⟩⟩
     ·
      rw [if_neg c13] at H; have c13b0 : decide (x7_1 < a0_1) = false := decide_eq_false c13; clear c13; simp only [Option.some.injEq, Prod.mk.injEq] at H; obtain ⟨rfl, rfl⟩ := H; have hnb67 := NB170_177.out; have hnc67 := NB177_170.out; have hcz68_0 : wr.cell? ⟨gb170, 0, none⟩ = some (.int .i8 a0_0) := (kC_ BK170.out 0).trans rfl; have hcz68_1 : wr.cell? ⟨gb170, 1, none⟩ = some (.int .i8 a0_1) := (kC_ BK170.out 1).trans rfl; have hcz68_2 : wr.cell? ⟨gb170, 2, none⟩ = some (.slice A0_2 l0_2.length c0_2) := (kC_ BK170.out 2).trans rfl; have hfz68_0 := kF_ BK170.out 0; have hfz68_1 := kF_ BK170.out 1; have hfz68_2 := kF_ BK170.out 2
      go_wp2
      go_ret2
      exact ⟨_, by first | rfl | (simp [errW_none, errW_some] <;> rfl) | (simp [*, errW_none, errW_some] <;> rfl), by (with_reducible repeat (first | apply Kd.R_alloc | apply Kd.R_drewN | apply Kd.R_drew)); exact HO_6.out, by repeat (first | (with_reducible first | exact HB.out | apply bA_ | apply bN_ | apply bD_ | refine bS_ ?_ GE170.out | refine bS_ ?_ GE177.out) | exact HB.out)⟩
  ·
   rw [if_neg c5] at H; exact absurd H (by simp)
 ·
  replace c3 := Bool.eq_false_iff.mpr c3; subst c3; have H1 : (some ((([] : List (S66))), 1)) = some (r1, r2) := by rw [if_neg (show ¬ (false = true) by decide)] at H; exact H
  clear H; have H := H1; clear H1; obtain ⟨y172, hy172⟩ : ∃ y_ : List (S66), y_ = (([] : List (S66))) := ⟨_, rfl⟩
  replace H : (some (y172, 1)) = some (r1, r2) := by first | (rw [hy172]; with_reducible exact H) | (have H2_ := (Option.bind_some _ _).symm.trans H; rw [hy172]; with_reducible exact H2_) | (have H2_ := (Option.bind_some _ _).symm.trans H; with_reducible exact H2_) | with_reducible exact H | (rw [hy172]; exact H) | exact H
  have Ny172 := am_ hy172; clear hy172; simp only [Option.some.injEq, Prod.mk.injEq] at H; obtain ⟨rfl, rfl⟩ := H
  go_enter Try.func13, Try.ntmps13
  go_wp2_with (first | ((with_reducible refine gate_dst (N := 1) rfl ?_); refine box_event ?hg (N := 1) ?hd (cs := #[.int .i8 a0_0, .int .i8 a0_1, .slice A0_2 l0_2.length c0_2]) (t := 29) ?hr ?_; (case hd => rfl); (case hg => rfl); (case hr => first | (go_simp; done) | (go_simp; rfl)); intro gb170 hg w69 hbox hb; have n0_ := am_ (bT_ (by repeat (first | (with_reducible first | exact HB.out | apply bA_ | apply bN_ | apply bD_) | exact HB.out)) hb); have n1_ := am_ (hbox); have n2_ := am_ ((by rw [hg]; exact (bZ_ (by repeat (first | (with_reducible first | exact HB.out | apply bA_ | apply bN_ | apply bD_) | exact HB.out))) : w.heap.size ≤ gb170)); have n3_ := n2_; clear HB; have HB := n0_; have BK170 := n1_; have GW170 := n2_; have GE170 := n3_; clear n0_ n1_ n2_ n3_; clear hb hbox hg) | ((with_reducible refine gate_callee (f := 30) rfl ?_); refine goesL_ (some 12) rfl rfl Try.func30 (by kernel_rfl) rfl #[.pointer (some ⟨gb170, 0, none⟩)] rfl (by (try simp only [List.map_toArray, List.map_cons, List.map_nil]); first | done | rfl | (simp only [List.length_drop, List.length_take]; rfl)) ?_; (with_reducible refine (spec_l01Ok.calls k _ 1 [(⟨a0_0, a0_1, l0_2⟩ : S29)] false _ ?side1 ?side2 A2.out).mono ?_); (case side1 => exact Kd.C_one_ (by (with_reducible repeat (first | apply kN_ | apply kD_ | apply kA_)); exact BK170.out) (k29_mk _ _ (by exact HC0_2.out) (by repeat (first | exact (cB_ HR0_2.out HB.out) | (with_reducible refine Kd.C_alloc ?_ _) | (with_reducible refine Kd.C_drewN ?_ _) | (with_reducible refine Kd.C_drew ?_))))); (case side2 => exact Nat.le_refl _); rintro e w70 ⟨rfl, hb⟩; refine ⟨_, rfl, ?_⟩; have n0_ := am_ (kB_ (g := gb170) (o := .cells #[.int .i8 a0_0, .int .i8 a0_1, .slice A0_2 l0_2.length c0_2] 29 (0, 0)) (by (with_reducible repeat (first | apply kN_ | apply kD_ | apply kA_)); exact BK170.out) hb); have n1_ := am_ (bT_ (by repeat (first | (with_reducible first | exact HB.out | apply bA_ | apply bN_ | apply bD_ | refine bS_ ?_ GE170.out) | exact HB.out)) hb); clear BK170; clear HB; have BK170 := n0_; have HB := n1_; clear n0_ n1_; (try clear hb); (try clear hb2); (try clear hk); (try clear hi)) | ((with_reducible refine gate_dst (N := 14) rfl ?_); refine Kd.R_lit k66 _ 66 ?hg (N := 14) ?hd (xs := ([] : List (S66))) (inner := []) (ok := fun _ => True) (okp := fun _ => True) ?hr ?hp (fun _ hk => hk) trivial (Below.refl _ _) (Nat.le_refl _) (by simp) ?_; (case hd => rfl); (case hg => rfl); (case hr => first | (go_simp; done) | (go_simp; rfl)); (case hp => exact (Reps.none _ _)); intro v173 w71 ho72 hb hg_ hnew_; clear hg_ hnew_; (first | rw [← Ny172.out] at ho72 | (simp only [Int.reduceToNat] at ho72; rw [← Ny172.out] at ho72)); have n0_ := am_ (Kd.R_lower ho72 (bZ_ (by repeat (first | (with_reducible first | exact HB.out | apply bA_ | apply bN_ | apply bD_ | refine bS_ ?_ GE170.out) | exact HB.out)))); have n1_ := am_ (kB_ (g := gb170) (o := .cells #[.int .i8 a0_0, .int .i8 a0_1, .slice A0_2 l0_2.length c0_2] 29 (0, 0)) (by (with_reducible repeat (first | apply kN_ | apply kD_ | apply kA_)); exact BK170.out) hb); have n2_ := am_ (bT_ (by repeat (first | (with_reducible first | exact HB.out | apply bA_ | apply bN_ | apply bD_ | refine bS_ ?_ GE170.out) | exact HB.out)) hb); clear BK170; clear HB; have HO174 := n0_; have BK170 := n1_; have HB := n2_; clear n0_ n1_ n2_; clear hb ho72))
  go_ret2
  exact ⟨_, by first | rfl | (simp [errW_none, errW_some] <;> rfl) | (simp [*, errW_none, errW_some] <;> rfl), by (with_reducible repeat (first | apply Kd.R_alloc | apply Kd.R_drewN | apply Kd.R_drew)); exact HO174.out, by repeat (first | (with_reducible first | exact HB.out | apply bA_ | apply bN_ | apply bD_ | refine bS_ ?_ GE170.out) | exact HB.out)⟩
end Go.Proofs.Ytgpfjmkmopjfbaa.Q
