-- Trimmed by a program.
import Derived.Test.YtbdhmfjeamjfdaaXQ0
import Derived.Test.YtbdhmfjeamjfdaaXQ12
import Derived.Test.YtbdhmfjeamjfdaaXQ8
import Derived.Shelf.SlSortCmp.NoneTotal
import Derived.Test.YtbdhmfjeamjfdaaXQWs
namespace Go.Proofs.Ytbdhmfjeamjfdaa.Q
open Go.RowKit Go.Proofs.YtbdhmfjeamjfdaaW.PrintWords Go.Proofs.YtbdhmfjeamjfdaaW.PrintLast Go.Proofs.YtbdhmfjeamjfdaaW.PrintMore
attribute [local go_sem] max2_int min2_int max_two min_two max_three min_three max_four min_four
set_option linter.unusedVariables false
set_option linter.unusedSimpArgs false
namespace Srt
set_option maxHeartbeats 8000000 in
set_option maxRecDepth 100000 in
theorem impl_SizesIn_1.calls (k : Nat) (a0_0 : Int) (a0_1 : Int) (a0_2 : Int) (a0_3 : Int) (a1_0 : Int) (a1_1 : Int) (a1_2 : Int) (a1_3 : Int) (r : Int) (w : World) (h : impl_SizesIn_1.f k a0_0 a0_1 a0_2 a0_3 a1_0 a1_1 a1_2 a1_3 = some r) :
  Calls Try.prog 21 #[.agg #[.int .i8 a0_0, .int .i8 a0_1, .int .i8 a0_2, .int .i8 a0_3], .agg #[.int .i8 a1_0, .int .i8 a1_1, .int .i8 a1_2, .int .i8 a1_3]] w fun e w' => e = .returned (.int .i64 r) ∧ Below w.heap.size w w' := by
 have hu45 := Try.underlying45; have HB := am_ (Below.refl w.heap.size w); have H : ((cmp_Compare_int8.f a0_2 a1_2).bind fun t231 => ((cmp_Compare_int8.f a0_3 a1_3).bind fun t232 => ((cmp_Or_int.f k (([t231, t232] : List Int))).bind fun t236 => (some t236)))) = some r := h; clear h; replace H := Option.bind_eq_some_iff.mp H; obtain ⟨t231, A30, H⟩ := H; replace H : ((cmp_Compare_int8.f a0_3 a1_3).bind fun t232 => ((cmp_Or_int.f k (([t231, t232] : List Int))).bind fun t236 => (some t236))) = some r := H; have A3 := am_ A30; clear A30; replace H := Option.bind_eq_some_iff.mp H; obtain ⟨t232, A40, H⟩ := H; replace H : ((cmp_Or_int.f k (([t231, t232] : List Int))).bind fun t236 => (some t236)) = some r := H; have A4 := am_ A40; clear A40; obtain ⟨y233, hy233⟩ : ∃ y_ : List Int, y_ = (([t231, t232] : List Int)) := ⟨_, rfl⟩
 replace H : ((cmp_Or_int.f k y233).bind fun t236 => (some t236)) = some r := by first | (rw [hy233]; with_reducible exact H) | (have H2_ := (Option.bind_some _ _).symm.trans H; rw [hy233]; with_reducible exact H2_) | (have H2_ := (Option.bind_some _ _).symm.trans H; with_reducible exact H2_) | with_reducible exact H | (rw [hy233]; exact H) | exact H
 have Ny233 := am_ hy233; clear hy233; replace H := Option.bind_eq_some_iff.mp H; obtain ⟨t236, A50, H⟩ := H; replace H : (some t236) = some r := H; have A5 := am_ A50; clear A50; obtain rfl := Option.some.inj H
 go_enter Try.func21, Try.ntmps21
 try go_wp2_with (first | ((with_reducible refine gate_dst (N := 2) rfl ?_); refine box_event ?hg (N := 2) ?hd (cs := #[.int .i8 a0_0, .int .i8 a0_1, .int .i8 a0_2, .int .i8 a0_3]) (t := 45) ?hr ?_; (case hd => rfl); (case hg => rfl); (case hr => first | (go_simp; done) | (go_simp; rfl)); intro gb229 hg w6 hbox hb; have n0_ := am_ (below_step (by repeat (first | (with_reducible first | exact HB.out | apply below_alloc | apply pw_below_drewN | apply below_drew1) | exact HB.out)) hb); have n1_ := am_ (hbox); have n2_ := am_ ((by rw [hg]; exact (below_size (by repeat (first | (with_reducible first | exact HB.out | apply below_alloc | apply pw_below_drewN | apply below_drew1) | exact HB.out))) : w.heap.size ≤ gb229)); have n3_ := n2_; clear HB; have HB := n0_; have BK229 := n1_; have GW229 := n2_; have GE229 := n3_; clear n0_ n1_ n2_ n3_; clear hb hbox hg) | ((with_reducible refine gate_dst (N := 3) rfl ?_); refine box_event ?hg (N := 3) ?hd (cs := #[.int .i8 a1_0, .int .i8 a1_1, .int .i8 a1_2, .int .i8 a1_3]) (t := 45) ?hr ?_; (case hd => rfl); (case hg => rfl); (case hr => first | (go_simp; done) | (go_simp; rfl)); intro gb230 hg w7 hbox hb; have n0_ := am_ (blk_below (g := gb229) (o := .cells #[.int .i8 a0_0, .int .i8 a0_1, .int .i8 a0_2, .int .i8 a0_3] 45 (0, 0)) (by (with_reducible repeat (first | apply kN_ | apply kD_ | apply kA_)); exact BK229.out) hb); have n1_ := am_ (below_step (by repeat (first | (with_reducible first | exact HB.out | apply below_alloc | apply pw_below_drewN | apply below_drew1 | refine below_set ?_ GE229.out) | exact HB.out)) hb); have n2_ := am_ (hbox); have n3_ := am_ ((by rw [hg]; exact (below_size (by repeat (first | (with_reducible first | exact HB.out | apply below_alloc | apply pw_below_drewN | apply below_drew1 | refine below_set ?_ GE229.out) | exact HB.out))) : w.heap.size ≤ gb230)); have n4_ := n3_; have n5_ := am_ ((by rw [hg]; exact nL_ (kL_ (g := gb229) (o := .cells #[.int .i8 a0_0, .int .i8 a0_1, .int .i8 a0_2, .int .i8 a0_3] 45 (0, 0)) (by (with_reducible repeat (first | apply kN_ | apply kD_ | apply kA_)); exact BK229.out)) : gb229 ≠ gb230)); have n6_ := am_ ((by rw [hg]; exact nG_ (kL_ (g := gb229) (o := .cells #[.int .i8 a0_0, .int .i8 a0_1, .int .i8 a0_2, .int .i8 a0_3] 45 (0, 0)) (by (with_reducible repeat (first | apply kN_ | apply kD_ | apply kA_)); exact BK229.out)) : gb230 ≠ gb229)); clear BK229; clear HB; have BK229 := n0_; have HB := n1_; have BK230 := n2_; have GW230 := n3_; have GE230 := n4_; have NB229_230 := n5_; have NB230_229 := n6_; clear n0_ n1_ n2_ n3_ n4_ n5_ n6_; clear hb hbox hg))
 have n0_ := am_ (kD_ BK229.out); have n1_ := am_ (kD_ BK230.out); have n2_ := am_ (below_drew1 HB.out); clear BK229; clear BK230; clear HB; have BK229 := n0_; have BK230 := n1_; have HB := n2_; clear n0_ n1_ n2_; refine start_ (n := 13) (S := fun w' => w'.cell? ⟨gb229, 0, none⟩ = some (.int .i8 a0_0) ∧ w'.cell? ⟨gb229, 1, none⟩ = some (.int .i8 a0_1) ∧ w'.cell? ⟨gb229, 2, none⟩ = some (.int .i8 a0_2) ∧ w'.cell? ⟨gb229, 3, none⟩ = some (.int .i8 a0_3) ∧ w'.cell? ⟨gb230, 0, none⟩ = some (.int .i8 a1_0) ∧ w'.cell? ⟨gb230, 1, none⟩ = some (.int .i8 a1_1) ∧ w'.cell? ⟨gb230, 2, none⟩ = some (.int .i8 a1_2) ∧ w'.cell? ⟨gb230, 3, none⟩ = some (.int .i8 a1_3)) (ds := []) (mB_ 13 0) (by kernel_rfl) rfl rfl ⟨(kC_ BK229.out 0).trans rfl, (kC_ BK229.out 1).trans rfl, (kC_ BK229.out 2).trans rfl, (kC_ BK229.out 3).trans rfl, (kC_ BK230.out 0).trans rfl, (kC_ BK230.out 1).trans rfl, (kC_ BK230.out 2).trans rfl, (kC_ BK230.out 3).trans rfl⟩ (fun hHeld => ?_); refine with_tabW impl_SizesIn_1.tab1 impl_SizesIn_1.bits1 (fun HT_ HW_ => ?_); generalize w7.drew = w8 at BK229 BK230 HB hHeld ⊢; refine pure_ (i := 0) (N := some 5) (v := ?_) (a' := ?_) (mB_ 13 1) rfl rfl (any_of HT_.out (by kernel_rfl)) (fun _ _ _ h => h) (Or.inl ⟨by rfl, ?_⟩) ?_ ?_; rotate_left
 ·
  intro w'
  go_simp
  with_reducible rfl
 rotate_left
 ·
  simp only [Act.put, z1_, z2_, z3_, i64_w, i32_w]
  rfl
 refine pure_ (i := 2) (N := some 7) (v := ?_) (a' := ?_) (mB_ 13 5) rfl rfl (any_of HT_.out (by kernel_rfl)) (fun _ _ _ h => h) (Or.inl ⟨by rfl, ?_⟩) ?_ ?_; rotate_left
 ·
  intro w'
  go_simp
  with_reducible rfl
 rotate_left
 ·
  simp only [Act.put, z1_, z2_, z3_, i64_w, i32_w]
  rfl
 refine pure_ (i := 5) (N := some 10) (v := ?_) (a' := ?_) (mB_ 13 37) rfl rfl (any_of HT_.out (by kernel_rfl)) (fun _ _ _ h => h) (Or.inl ⟨by rfl, ?_⟩) ?_ ?_; rotate_left
 ·
  intro w'
  go_simp
  with_reducible rfl
 rotate_left
 ·
  simp only [Act.put, z1_, z2_, z3_, i64_w, i32_w]
  rfl
 refine pure_ (i := 7) (N := some 12) (v := ?_) (a' := ?_) (mB_ 13 165) rfl rfl (any_of HT_.out (by kernel_rfl)) (fun _ _ _ h => h) (Or.inl ⟨by rfl, ?_⟩) ?_ ?_; rotate_left
 ·
  intro w'
  go_simp
  with_reducible rfl
 rotate_left
 ·
  simp only [Act.put, z1_, z2_, z3_, i64_w, i32_w]
  rfl
 refine take_ (i := 1) (N := some 6) (v := ?_) (a' := ?_) (mB_ 13 167) rfl rfl (take_ofW HT_.out HW_.out (by kernel_rfl)) (fun _ _ _ h => h) (Or.inl ⟨by rfl, ?_⟩) hHeld ?_ ?_; rotate_left
 ·
  rintro w' ⟨s0, s1, s2, s3, s4, s5, s6, s7⟩
  go_simp
  with_reducible rfl
 rotate_left
 ·
  simp only [Act.put, z1_, z2_, z3_, i64_w, i32_w]
  rfl
 refine take_ (i := 3) (N := some 8) (v := ?_) (a' := ?_) (mB_ 13 175) rfl rfl (take_ofW HT_.out HW_.out (by kernel_rfl)) (fun _ _ _ h => h) (Or.inl ⟨by rfl, ?_⟩) hHeld ?_ ?_; rotate_left
 ·
  rintro w' ⟨s0, s1, s2, s3, s4, s5, s6, s7⟩
  go_simp
  with_reducible rfl
 rotate_left
 ·
  simp only [Act.put, z1_, z2_, z3_, i64_w, i32_w]
  rfl
 refine take_ (i := 6) (N := some 11) (v := ?_) (a' := ?_) (mB_ 13 239) rfl rfl (take_ofW HT_.out HW_.out (by kernel_rfl)) (fun _ _ _ h => h) (Or.inl ⟨by rfl, ?_⟩) hHeld ?_ ?_; rotate_left
 ·
  rintro w' ⟨s0, s1, s2, s3, s4, s5, s6, s7⟩
  go_simp
  with_reducible rfl
 rotate_left
 ·
  simp only [Act.put, z1_, z2_, z3_, i64_w, i32_w]
  rfl
 refine take_ (i := 8) (N := some 13) (v := ?_) (a' := ?_) (mB_ 13 495) rfl rfl (take_ofW HT_.out HW_.out (by kernel_rfl)) (fun _ _ _ h => h) (Or.inl ⟨by rfl, ?_⟩) hHeld ?_ ?_; rotate_left
 ·
  rintro w' ⟨s0, s1, s2, s3, s4, s5, s6, s7⟩
  go_simp
  with_reducible rfl
 rotate_left
 ·
  simp only [Act.put, z1_, z2_, z3_, i64_w, i32_w]
  rfl
 refine one_ (i := 4) (N := some 9) (mB_ 13 511) rfl rfl (one_of HT_.out (by kernel_rfl)) (by decide) (fun K hK => ?_); refine goes_ Try.func23 (by kernel_rfl) rfl #[.int .i8 a0_2, .int .i8 a1_2] (by rfl) rfl rfl (by (try simp only [List.map_toArray, List.map_cons, List.map_nil]); first | done | rfl | (simp only [List.length_drop, List.length_take]; rfl)) ?_
 with_reducible refine (cmp_Compare_int8.calls a0_2 a1_2 t231 _ A3.out).mono ?_
 rintro e w' ⟨rfl, ⟨nd, rfl⟩⟩; refine ⟨_, rfl, ?_⟩; refine hK.out _ _ ⟨(kC_ BK229.out 0).trans rfl, (kC_ BK229.out 1).trans rfl, (kC_ BK229.out 2).trans rfl, (kC_ BK229.out 3).trans rfl, (kC_ BK230.out 0).trans rfl, (kC_ BK230.out 1).trans rfl, (kC_ BK230.out 2).trans rfl, (kC_ BK230.out 3).trans rfl⟩ (fun hHeld => ?_); clear hK K; refine norm_ (a' := ?_) ?_ ?_; rotate_left
 ·
  show Act.put _ (some 9) _ = _
  simp only [Act.put, z1_, z2_, z3_, i64_w, i32_w]
  rfl
 refine one_ (i := 9) (N := some 14) (mB_ 13 1023) rfl rfl (one_of HT_.out (by kernel_rfl)) (by decide) (fun K hK => ?_); refine goes_ Try.func23 (by kernel_rfl) rfl #[.int .i8 a0_3, .int .i8 a1_3] (by rfl) rfl rfl (by (try simp only [List.map_toArray, List.map_cons, List.map_nil]); first | done | rfl | (simp only [List.length_drop, List.length_take]; rfl)) ?_
 with_reducible refine (cmp_Compare_int8.calls a0_3 a1_3 t232 _ A4.out).mono ?_
 rintro e w' ⟨rfl, ⟨nd, rfl⟩⟩; refine ⟨_, rfl, ?_⟩; refine hK.out _ _ ⟨(kC_ BK229.out 0).trans rfl, (kC_ BK229.out 1).trans rfl, (kC_ BK229.out 2).trans rfl, (kC_ BK229.out 3).trans rfl, (kC_ BK230.out 0).trans rfl, (kC_ BK230.out 1).trans rfl, (kC_ BK230.out 2).trans rfl, (kC_ BK230.out 3).trans rfl⟩ (fun hHeld => ?_); clear hK K; refine norm_ (a' := ?_) ?_ ?_; rotate_left
 ·
  show Act.put _ (some 14) _ = _
  simp only [Act.put, z1_, z2_, z3_, i64_w, i32_w]
  rfl
 refine one_ (i := 10) (N := some 15) (mB_ 13 2047) rfl rfl (one_of HT_.out (by kernel_rfl)) (by decide) (fun K hK => ?_); refine Kd.R_lit_step (Kd.int .i64) _ 3 ?hg (N := 15) ?hd (xs := ([t231, t232] : List Int)) (inner := [.int .i64 t231, .int .i64 t232]) (ok := fun _ => True) (okp := fun _ => True) ?hr ?hp (fun _ hk => hk) trivial (Below.refl _ _) (Nat.le_refl _) (by simp) ?_; (case hd => rfl); (case hg => rfl); (case hr => first | (go_simp; done) | (go_simp; rfl)); (case hp => exact (Reps.one (show Kd.M (Kd.int .i64) _ _ _ t231 [.int .i64 t231] from rfl) (Reps.one (show Kd.M (Kd.int .i64) _ _ _ t232 [.int .i64 t232] from rfl) (Reps.none _ _)))); intro v234 w9 ho10 hb hg_ hnew_; clear hg_ hnew_
 (first | rw [← Ny233.out] at ho10 | (simp only [Int.reduceToNat] at ho10; rw [← Ny233.out] at ho10))
 have n0_ := am_ (Kd.R_lower ho10 (below_size (by repeat (first | (with_reducible first | exact HB.out | apply below_alloc | apply pw_below_drewN | apply below_drew1 | refine below_set ?_ GE229.out | refine below_set ?_ GE230.out) | exact HB.out)))); have n1_ := am_ (blk_below (g := gb229) (o := .cells #[.int .i8 a0_0, .int .i8 a0_1, .int .i8 a0_2, .int .i8 a0_3] 45 (0, 0)) (by (with_reducible repeat (first | apply kN_ | apply kD_ | apply kA_)); exact BK229.out) hb); have n2_ := am_ (blk_below (g := gb230) (o := .cells #[.int .i8 a1_0, .int .i8 a1_1, .int .i8 a1_2, .int .i8 a1_3] 45 (0, 0)) (by (with_reducible repeat (first | apply kN_ | apply kD_ | apply kA_)); exact BK230.out) hb); have n3_ := am_ (below_step (by repeat (first | (with_reducible first | exact HB.out | apply below_alloc | apply pw_below_drewN | apply below_drew1 | refine below_set ?_ GE229.out | refine below_set ?_ GE230.out) | exact HB.out)) hb); clear BK229; clear BK230; clear HB; have HO235 := n0_; have BK229 := n1_; have BK230 := n2_; have HB := n3_; clear n0_ n1_ n2_ n3_; clear hb ho10; obtain ⟨Ao11, co11, eo11⟩ := Kd.R_slice HO235.out
 (first | subst eo11 | (injection eo11 with f1_ f2_ f3_; have f4_ := f1_.symm; have f5_ := f3_.symm; clear f1_ f2_ f3_; subst f4_; subst f5_))
 refine hK.out _ _ ⟨(kC_ BK229.out 0).trans rfl, (kC_ BK229.out 1).trans rfl, (kC_ BK229.out 2).trans rfl, (kC_ BK229.out 3).trans rfl, (kC_ BK230.out 0).trans rfl, (kC_ BK230.out 1).trans rfl, (kC_ BK230.out 2).trans rfl, (kC_ BK230.out 3).trans rfl⟩ (fun hHeld => ?_); clear hK K; refine norm_ (a' := ?_) ?_ ?_; rotate_left
 ·
  show Act.put _ (some 15) _ = _
  simp only [Act.put, z1_, z2_, z3_, i64_w, i32_w]
  rfl
 refine one_ (i := 11) (N := some 16) (mB_ 13 4095) rfl rfl (one_of HT_.out (by kernel_rfl)) (by decide) (fun K hK => ?_); refine goes_ Try.func22 (by kernel_rfl) rfl #[.slice Ao11 y233.length co11] (by rfl) rfl rfl (by (try simp only [List.map_toArray, List.map_cons, List.map_nil]); first | done | rfl | (simp only [List.length_drop, List.length_take]; rfl)) ?_
 with_reducible refine (cmp_Or_int.calls k _ _ y233 t236 _ ?side1 ?side2 A5.out).mono ?_
 (case side1 => repeat (first | exact (Kd.R_reads' HO235.out).2.2 | (with_reducible refine Kd.C_alloc ?_ _) | (with_reducible refine Kd.C_drewN ?_ _) | (with_reducible refine Kd.C_drew ?_)))
 (case side2 => exact (Kd.R_reads' HO235.out).2.1)
 rintro e w' ⟨rfl, ⟨nd, rfl⟩⟩; refine ⟨_, rfl, ?_⟩; refine hK.out _ _ ⟨(kC_ BK229.out 0).trans rfl, (kC_ BK229.out 1).trans rfl, (kC_ BK229.out 2).trans rfl, (kC_ BK229.out 3).trans rfl, (kC_ BK230.out 0).trans rfl, (kC_ BK230.out 1).trans rfl, (kC_ BK230.out 2).trans rfl, (kC_ BK230.out 3).trans rfl⟩ (fun hHeld => ?_); clear hK K; refine norm_ (a' := ?_) ?_ ?_; rotate_left
 ·
  show Act.put _ (some 16) _ = _
  simp only [Act.put, z1_, z2_, z3_, i64_w, i32_w]
  rfl
 refine pure_ (i := 12) (N := some 4) (v := ?_) (a' := ?_) (mB_ 13 8191) rfl rfl (any_of HT_.out (by kernel_rfl)) (fun _ _ _ h => h) (Or.inl ⟨by rfl, ?_⟩) ?_ ?_; rotate_left
 ·
  intro w'
  go_simp
  with_reducible rfl
 rotate_left
 ·
  simp only [Act.put, z1_, z2_, z3_, i64_w, i32_w]
  rfl
 refine done_ (done_of HT_.out (by kernel_rfl)) ?_
 try go_wp2
 go_ret
 exact ⟨by first | rfl | (simp [errW_none, errW_some] <;> rfl) | (simp [*, errW_none, errW_some] <;> rfl), by repeat (first | (with_reducible first | exact HB.out | apply below_alloc | apply pw_below_drewN | apply below_drew1 | refine below_set ?_ GE229.out | refine below_set ?_ GE230.out) | exact HB.out)⟩
end Srt
theorem slices_SortFunc_impl_Slab_at_impl_SizesIn_1.or2 (a b : Int) : cmp_Or_int.f 9 [a, b] = some (if a = 0 then b else a) := by
 unfold cmp_Or_int.f
 simp only [cmp_Or_int.l0, List.length_cons, List.length_nil, rd]
 by_cases h : a = 0
 ·
  subst h
  by_cases h2 : b = 0
  · subst h2; first | decide | simp [wrap64]
  · simp [h2, wrap64]
 · simp [h]
theorem slices_SortFunc_impl_Slab_at_impl_SizesIn_1.cmp8 (a b : Int) : cmp_Compare_int8.f a b = some (cmpZ a b) := by
 have h : ∀ x, cmp_isNaN_int8.f x = some false := fun x => by unfold cmp_isNaN_int8.f; simp
 unfold cmp_Compare_int8.f cmpZ
 rw [h, h]; simp only [Option.bind_some, Bool.false_eq_true, if_false]
 split
 · rfl
 · split <;> rfl
def slices_SortFunc_impl_Slab_at_impl_SizesIn_1.cf (x y : S45) : Int := cmpZ2 x.f2 y.f2 x.f3 y.f3
theorem slices_SortFunc_impl_Slab_at_impl_SizesIn_1.cf_some (x y : S45) : impl_SizesIn_1.f 9 x.f0 x.f1 x.f2 x.f3 y.f0 y.f1 y.f2 y.f3 = some (slices_SortFunc_impl_Slab_at_impl_SizesIn_1.cf x y) := by
 simp only [impl_SizesIn_1.f, Option.bind_some, slices_SortFunc_impl_Slab_at_impl_SizesIn_1.cmp8, slices_SortFunc_impl_Slab_at_impl_SizesIn_1.or2]
 rfl
def slices_SortFunc_impl_Slab_at_impl_SizesIn_1.enc (x : S45) : List Value := [.int .i8 x.f0, .int .i8 x.f1, .int .i8 x.f2, .int .i8 x.f3]
instance : Inhabited S45 := ⟨⟨0, 0, 0, 0⟩⟩
section
open Go.Shelf
def slices_SortFunc_impl_Slab_at_impl_SizesIn_1_lays_ren : Go.Shelf.Ren := ⟨fun | 6 => 20 | 15 => 33 | 14 => 32 | 28 => 50 | 29 => 51 | 20 => 42 | 21 => 43 | 22 => 44 | 23 => 45 | 24 => 46 | 25 => 47 | 26 => 48 | 27 => 49 | 46 => 53 | 47 => 54 | 48 => 55 | 49 => 56 | 50 => 57 | 57 => 58 | n => n, fun | 22 => 27 | 24 => 45 | 25 => 52 | 3 => 3 | 39 => 66 | 0 => 0 | 53 => 85 | 55 => 87 | 4 => 4 | 46 => 78 | 45 => 77 | 50 => 82 | 5 => 5 | 9 => 9 | 66 => 88 | 70 => 92 | 76 => 94 | 77 => 95 | n => n, fun | n => n⟩
theorem slices_SortFunc_impl_Slab_at_impl_SizesIn_1_lays : Go.Proofs.SlLaysF0.n6 Try.prog slices_SortFunc_impl_Slab_at_impl_SizesIn_1_lays_ren := {
 mixed := by kernel_rfl
 f6 := ⟨Try.f20.name, by decide, Try.func20.trans (congrArg some (by kernel_rfl))⟩
 f14 := ⟨Try.f32.name, by decide, Try.func32.trans (congrArg some (by kernel_rfl))⟩
 f15 := Try.func33.trans (congrArg some (by kernel_rfl))
 f20 := ⟨Try.f42.name, by decide, Try.func42.trans (congrArg some (by kernel_rfl))⟩
 f21 := ⟨Try.f43.name, by decide, Try.func43.trans (congrArg some (by kernel_rfl))⟩
 f22 := ⟨Try.f44.name, by decide, Try.func44.trans (congrArg some (by kernel_rfl))⟩
 f23 := ⟨Try.f45.name, by decide, Try.func45.trans (congrArg some (by kernel_rfl))⟩
 f24 := ⟨Try.f46.name, by decide, Try.func46.trans (congrArg some (by kernel_rfl))⟩
 f25 := ⟨Try.f47.name, by decide, Try.func47.trans (congrArg some (by kernel_rfl))⟩
 f26 := ⟨Try.f48.name, by decide, Try.func48.trans (congrArg some (by kernel_rfl))⟩
 f27 := ⟨Try.f49.name, by decide, Try.func49.trans (congrArg some (by kernel_rfl))⟩
 f28 := Try.func50.trans (congrArg some (by kernel_rfl))
 f29 := Try.func51.trans (congrArg some (by kernel_rfl))
 f46 := ⟨Try.f53.name, by decide, Try.func53.trans (congrArg some (by kernel_rfl))⟩
 f47 := Try.func54.trans (congrArg some (by kernel_rfl))
 f48 := Try.func55.trans (congrArg some (by kernel_rfl))
 f49 := ⟨Try.f56.name, by decide, Try.func56.trans (congrArg some (by kernel_rfl))⟩
 f50 := ⟨Try.f57.name, by decide, Try.func57.trans (congrArg some (by kernel_rfl))⟩
 f57 := ⟨Try.f58.name, by decide, Try.func58.trans (congrArg some (by kernel_rfl))⟩
 t0 := Try.underlying0
 a0 := Try.isAgg0
 z0 := Try.sizeOf0
 v0 := Try.zeroValue0
 t3 := Try.underlying3
 a3 := Try.isAgg3
 z3 := Try.sizeOf3
 v3 := Try.zeroValue3
 t4 := Try.underlying4
 a4 := Try.isAgg4
 z4 := Try.sizeOf4
 v4 := Try.zeroValue4
 t5 := Try.underlying5
 a5 := Try.isAgg5
 z5 := Try.sizeOf5
 v5 := Try.zeroValue5
 t9 := Try.underlying9
 a9 := Try.isAgg9
 z9 := Try.sizeOf9
 v9 := Try.zeroValue9
 t22 := Try.underlying27
 a22 := Try.isAgg27
 z22 := Try.sizeOf27
 v22 := Try.zeroValue27
 t25 := Try.underlying52
 a25 := Try.isAgg52
 z25 := Try.sizeOf52
 v25 := Try.zeroValue52
 t39 := Try.underlying66
 a39 := Try.isAgg66
 z39 := Try.sizeOf66
 v39 := Try.zeroValue66
 t45 := Try.underlying77
 a45 := Try.isAgg77
 z45 := Try.sizeOf77
 v45 := Try.zeroValue77
 t46 := Try.underlying78
 a46 := Try.isAgg78
 z46 := Try.sizeOf78
 v46 := Try.zeroValue78
 t50 := Try.underlying82
 a50 := Try.isAgg82
 z50 := Try.sizeOf82
 v50 := Try.zeroValue82
 t53 := Try.underlying85
 a53 := Try.isAgg85
 z53 := Try.sizeOf85
 v53 := Try.zeroValue85
 t55 := Try.underlying87
 a55 := Try.isAgg87
 z55 := Try.sizeOf87
 v55 := Try.zeroValue87
 t66 := Try.underlying88
 a66 := Try.isAgg88
 z66 := Try.sizeOf88
 v66 := Try.zeroValue88
 t70 := Try.underlying92
 a70 := Try.isAgg92
 z70 := Try.sizeOf92
 v70 := Try.zeroValue92
 t76 := Try.underlying94
 a76 := Try.isAgg94
 z76 := Try.sizeOf94
 v76 := Try.zeroValue94
 t77 := Try.underlying95
 a77 := Try.isAgg95
 z77 := Try.sizeOf95
 v77 := Try.zeroValue95 }
end
def slices_SortFunc_impl_Slab_at_impl_SizesIn_1.f (l0 : List S45) : Option (List S45) := if l0.length < 4611686018427387904 then some (sort2 (fun x : S45 => x.f2) (fun x : S45 => x.f3) l0) else none
theorem slices_SortFunc_impl_Slab_at_impl_SizesIn_1.cmpLays (blk off size : Nat) (w : World) : Go.Proofs.CmpLays Try.prog 21 #[] slices_SortFunc_impl_Slab_at_impl_SizesIn_1.enc 4 slices_SortFunc_impl_Slab_at_impl_SizesIn_1.cf blk off size w := fun m os dk _ x y =>
 (Srt.impl_SizesIn_1.calls 9 x.f0 x.f1 x.f2 x.f3 y.f0 y.f1 y.f2 y.f3 _ _ (slices_SortFunc_impl_Slab_at_impl_SizesIn_1.cf_some x y)).mono fun _ _ ⟨he, hb⟩ => ⟨he, Srt.grow_of hb⟩
theorem slices_SortFunc_impl_Slab_at_impl_SizesIn_1.enc_of (w : World) (base : Nat) (ok : Nat → Prop) (x : S45) (cs : List Value) (h : k45.M w base ok x cs) : cs = slices_SortFunc_impl_Slab_at_impl_SizesIn_1.enc x := k45_openM h
theorem slices_SortFunc_impl_Slab_at_impl_SizesIn_1.of_enc (w : World) (base : Nat) (ok : Nat → Prop) (x : S45) : k45.M w base ok x (slices_SortFunc_impl_Slab_at_impl_SizesIn_1.enc x) := k45_mkM w base ok x
set_option maxHeartbeats 8000000 in
set_option maxRecDepth 100000 in
theorem slices_SortFunc_impl_Slab_at_impl_SizesIn_1.calls (P0_ : Nat → Prop) (u9000_ : Value) (l0 : List S45) (r0 : List S45) (w0 w : World) (hB : Below w0.heap.size w0 w) (ho0 : Kd.R k45 45 w w0.heap.size P0_ u9000_ l0) (h : slices_SortFunc_impl_Slab_at_impl_SizesIn_1.f l0 = some r0) :
  Calls Try.prog 20 #[u9000_, .func (.func 21) #[] #[]] w fun e w' => e = .returned (.tuple #[]) ∧ Kd.R k45 45 w' w0.heap.size (fun k_ => (P0_ k_ ∨ w.heap.size ≤ k_)) u9000_ r0 ∧ Below w0.heap.size w0 w' ∧ Kept w w' (fun k_ => P0_ k_) := by
 unfold slices_SortFunc_impl_Slab_at_impl_SizesIn_1.f at h
 by_cases hs : l0.length < 4611686018427387904
 ·
  rw [if_pos hs] at h; obtain rfl := Option.some.inj h; clear h; have hR := ho0; obtain ⟨hok, inner, ⟨hlen, hr⟩, hreps⟩ := ho0
  rcases hr with ⟨hv, h0⟩ | ⟨g, cap, cur, hv, hb, hh, hn, hcap, hsz, htk⟩
  ·
   subst hv; obtain rfl : l0 = [] := List.eq_nil_of_length_eq_zero h0; have hp : sort2 (fun x : S45 => x.f2) (fun x : S45 => x.f3) [] = [] := List.eq_nil_of_length_eq_zero (sort2_perm _ _ _).length_eq; rw [hp]; have hcon := Go.Proofs.AnyF.slices_SortFunc_none slices_SortFunc_impl_Slab_at_impl_SizesIn_1_lays none 0 (.func (.func 21) #[] #[]) w; refine Calls.mono (show Calls Try.prog 20 #[.slice none 0 0, .func (.func 21) #[] #[]] w _ from hcon) ?_; rintro e w' ⟨rfl, rfl⟩; exact ⟨rfl, Kd.R_nil _ _ _ _ _, hB, Kept.refl _ _⟩
  ·
   subst hv; obtain ⟨hH, hg, -, -, -⟩ := holds_row (enc := slices_SortFunc_impl_Slab_at_impl_SizesIn_1.enc) slices_SortFunc_impl_Slab_at_impl_SizesIn_1.enc_of (fun _ => rfl) hR; have eg := enters_of Try.func21 (by kernel_rfl) rfl; have hcon := Go.Proofs.AnyQ.slices_SortFunc_eq slices_SortFunc_impl_Slab_at_impl_SizesIn_1_lays 4 Try.isAgg45 Try.sizeOf45 slices_SortFunc_impl_Slab_at_impl_SizesIn_1.enc (fun _ => rfl) (fun x v hv => by simp [slices_SortFunc_impl_Slab_at_impl_SizesIn_1.enc] at hv; rcases hv with rfl | rfl | rfl | rfl <;> rfl) slices_SortFunc_impl_Slab_at_impl_SizesIn_1.cf (swo2 _ _) 21 #[] g 0 cap l0.toArray w eg (slices_SortFunc_impl_Slab_at_impl_SizesIn_1.cmpLays _ _ _ _) hH hg (by simpa using hs); refine Calls.mono (show Calls Try.prog 20 #[.slice (some ⟨g, 0, none⟩) l0.length cap, .func (.func 21) #[] #[]] w _ from hcon) ?_; rintro e w' ⟨rfl, n, os, rfl⟩; exact ⟨rfl, sorted_row (enc := slices_SortFunc_impl_Slab_at_impl_SizesIn_1.enc) slices_SortFunc_impl_Slab_at_impl_SizesIn_1.of_enc (fun _ => rfl) hR hB (sort2_size _ _ _)⟩
 ·
  rw [if_neg hs] at h
  cases h
end Go.Proofs.Ytbdhmfjeamjfdaa.Q
