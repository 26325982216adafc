-- Trimmed by a program of this session's.
import Derived.Test.YtjadgmafgkoanaaXQ0
import Derived.Test.YtjadgmafgkoanaaXQ10
import Derived.Test.YtjadgmafgkoanaaXQ9
import Derived.Shelf.SlSortCmp.NoneTotal
import Derived.Test.YtjadgmafgkoanaaXQWs
namespace Go.Proofs.Ytjadgmafgkoanaa.Q
open Go.RowKit Go.Proofs.YtjadgmafgkoanaaW.PrintWords Go.Proofs.YtjadgmafgkoanaaW.PrintLast Go.Proofs.YtjadgmafgkoanaaW.PrintMore
attribute [local go_sem] max2_int min2_int max_two min_two max_three min_three max_four min_four
set_option linter.unusedVariables false
set_option linter.unusedSimpArgs false
namespace Srt
set_option maxHeartbeats 8000000 in
set_option maxRecDepth 100000 in
theorem impl_compareCells.calls (k : Nat) (a0_0 : Int) (a0_1 : Int) (a1_0 : Int) (a1_1 : Int) (r : Int) (w : World) (h : impl_compareCells.f k a0_0 a0_1 a1_0 a1_1 = some r) :
  Calls Try.prog 101 #[.agg #[.int .i8 a0_0,.int .i8 a0_1],.agg #[.int .i8 a1_0,.int .i8 a1_1]] w fun e w'=>e = .returned (.int .i64 r) ∧ Below w.heap.size w w':=by
 have hu96:=Try.underlying96;have HB:=am_ (Below.refl w.heap.size w);have H : ((cmp_Compare_int8.f a0_1 a1_1).bind fun t272=>((cmp_Compare_int8.f a0_0 a1_0).bind fun t273=>((cmp_Or_int.f k (([t272,t273] : List Int))).bind fun t277=>(some t277)))) = some r:=h;clear h;replace H:=Option.bind_eq_some_iff.mp H;obtain ⟨t272,A30,H⟩:=H;replace H : ((cmp_Compare_int8.f a0_0 a1_0).bind fun t273=>((cmp_Or_int.f k (([t272,t273] : List Int))).bind fun t277=>(some t277))) = some r:=H;have A3:=am_ A30;clear A30;replace H:=Option.bind_eq_some_iff.mp H;obtain ⟨t273,A40,H⟩:=H;replace H : ((cmp_Or_int.f k (([t272,t273] : List Int))).bind fun t277=>(some t277)) = some r:=H;have A4:=am_ A40;clear A40;obtain ⟨y274,hy274⟩ : ∃ y_ : List Int,y_ = (([t272,t273] : List Int)):=⟨_,rfl⟩
 replace H : ((cmp_Or_int.f k y274).bind fun t277=>(some t277)) = some r:=by first|(rw [hy274];with_reducible exact H)|(have H2_:=(Option.bind_some _ _).symm.trans H;rw [hy274];with_reducible exact H2_)|(have H2_:=(Option.bind_some _ _).symm.trans H;with_reducible exact H2_)|with_reducible exact H|(rw [hy274];exact H)|exact H
 have Ny274:=am_ hy274;clear hy274;replace H:=Option.bind_eq_some_iff.mp H;obtain ⟨t277,A50,H⟩:=H;replace H : (some t277) = some r:=H;have A5:=am_ A50;clear A50;obtain rfl:=Option.some.inj H
 go_enter Try.func101,Try.ntmps101
 try go_wp2_with (first|((with_reducible refine gate_dst (N:=2) rfl ?_);refine box_event ?hg (N:=2) ?hd (cs:=#[.int .i8 a0_0,.int .i8 a0_1]) (t:=96) ?hr ?_;(case hd=>rfl);(case hg=>rfl);(case hr=>first|(go_simp;done)|(go_simp;rfl));intro gb270 hg w6 hbox hb;have n0_:=am_ (below_step (by exact HB.out) hb);have n1_:=am_ (hbox);have n2_:=am_ ((by rw [hg];exact (below_size (by exact HB.out)) : w.heap.size≤gb270));have n3_:=n2_;clear HB;have HB:=n0_;have BK270:=n1_;have GW270:=n2_;have GE270:=n3_;clear n0_ n1_ n2_ n3_;clear hb hbox hg)|((with_reducible refine gate_dst (N:=3) rfl ?_);refine box_event ?hg (N:=3) ?hd (cs:=#[.int .i8 a1_0,.int .i8 a1_1]) (t:=96) ?hr ?_;(case hd=>rfl);(case hg=>rfl);(case hr=>first|(go_simp;done)|(go_simp;rfl));intro gb271 hg w7 hbox hb;have n0_:=am_ (blk_below (g:=gb270) (o:=.cells #[.int .i8 a0_0,.int .i8 a0_1] 96 (0,0)) (by exact BK270.out) hb);have n1_:=am_ (below_step (by exact HB.out) hb);have n2_:=am_ (hbox);have n3_:=am_ ((by rw [hg];exact (below_size (by exact HB.out)) : w.heap.size≤gb271));have n4_:=n3_;have n5_:=am_ ((by rw [hg];exact nL_ (kL_ (g:=gb270) (o:=.cells #[.int .i8 a0_0,.int .i8 a0_1] 96 (0,0)) (by exact BK270.out)) : gb270 ≠ gb271));have n6_:=am_ ((by rw [hg];exact nG_ (kL_ (g:=gb270) (o:=.cells #[.int .i8 a0_0,.int .i8 a0_1] 96 (0,0)) (by exact BK270.out)) : gb271 ≠ gb270));clear BK270;clear HB;have BK270:=n0_;have HB:=n1_;have BK271:=n2_;have GW271:=n3_;have GE271:=n4_;have NB270_271:=n5_;have NB271_270:=n6_;clear n0_ n1_ n2_ n3_ n4_ n5_ n6_;clear hb hbox hg))
 have n0_:=am_ (kD_ BK270.out);have n1_:=am_ (kD_ BK271.out);have n2_:=am_ (below_drew1 HB.out);clear BK270;clear BK271;clear HB;have BK270:=n0_;have BK271:=n1_;have HB:=n2_;clear n0_ n1_ n2_;refine start_ (n:=13) (S:=fun w'=>w'.cell? ⟨gb270,0,none⟩ = some (.int .i8 a0_0) ∧ w'.cell? ⟨gb270,1,none⟩ = some (.int .i8 a0_1) ∧ w'.cell? ⟨gb271,0,none⟩ = some (.int .i8 a1_0) ∧ w'.cell? ⟨gb271,1,none⟩ = some (.int .i8 a1_1)) (ds:=[]) (mB_ 13 0) (by kernel_rfl) rfl rfl ⟨(kC_ BK270.out 0).trans rfl,(kC_ BK270.out 1).trans rfl,(kC_ BK271.out 0).trans rfl,(kC_ BK271.out 1).trans rfl⟩ (fun hHeld=>?_);refine with_tabW impl_compareCells.tab1 impl_compareCells.bits1 (fun HT_ HW_=>?_);generalize w7.drew = w8 at BK270 BK271 HB hHeld ⊢;refine pure_ (i:=0) (N:=some 5) (v:=?_) (a':=?_) (mB_ 13 1) rfl rfl (any_of HT_.out (by kernel_rfl)) (fun _ _ _ h=>h) (Or.inl ⟨by rfl,?_⟩) ?_ ?_;rotate_left;(· intro w';go_simp;with_reducible rfl);rotate_left;(· simp only [Act.put,z1_,z2_,z3_,i64_w,i32_w];rfl)
 refine pure_ (i:=2) (N:=some 7) (v:=?_) (a':=?_) (mB_ 13 5) rfl rfl (any_of HT_.out (by kernel_rfl)) (fun _ _ _ h=>h) (Or.inl ⟨by rfl,?_⟩) ?_ ?_;rotate_left;(· intro w';go_simp;with_reducible rfl);rotate_left;(· simp only [Act.put,z1_,z2_,z3_,i64_w,i32_w];rfl)
 refine pure_ (i:=5) (N:=some 10) (v:=?_) (a':=?_) (mB_ 13 37) rfl rfl (any_of HT_.out (by kernel_rfl)) (fun _ _ _ h=>h) (Or.inl ⟨by rfl,?_⟩) ?_ ?_;rotate_left;(· intro w';go_simp;with_reducible rfl);rotate_left;(· simp only [Act.put,z1_,z2_,z3_,i64_w,i32_w];rfl)
 refine pure_ (i:=7) (N:=some 12) (v:=?_) (a':=?_) (mB_ 13 165) rfl rfl (any_of HT_.out (by kernel_rfl)) (fun _ _ _ h=>h) (Or.inl ⟨by rfl,?_⟩) ?_ ?_;rotate_left;(· intro w';go_simp;with_reducible rfl);rotate_left;(· simp only [Act.put,z1_,z2_,z3_,i64_w,i32_w];rfl)
 refine take_ (i:=1) (N:=some 6) (v:=?_) (a':=?_) (mB_ 13 167) rfl rfl (take_ofW HT_.out HW_.out (by kernel_rfl)) (fun _ _ _ h=>h) (Or.inl ⟨by rfl,?_⟩) hHeld ?_ ?_;rotate_left;(· rintro w' ⟨s0,s1,s2,s3⟩;go_simp;with_reducible rfl);rotate_left;(· simp only [Act.put,z1_,z2_,z3_,i64_w,i32_w];rfl)
 refine take_ (i:=3) (N:=some 8) (v:=?_) (a':=?_) (mB_ 13 175) rfl rfl (take_ofW HT_.out HW_.out (by kernel_rfl)) (fun _ _ _ h=>h) (Or.inl ⟨by rfl,?_⟩) hHeld ?_ ?_;rotate_left;(· rintro w' ⟨s0,s1,s2,s3⟩;go_simp;with_reducible rfl);rotate_left;(· simp only [Act.put,z1_,z2_,z3_,i64_w,i32_w];rfl)
 refine take_ (i:=6) (N:=some 11) (v:=?_) (a':=?_) (mB_ 13 239) rfl rfl (take_ofW HT_.out HW_.out (by kernel_rfl)) (fun _ _ _ h=>h) (Or.inl ⟨by rfl,?_⟩) hHeld ?_ ?_;rotate_left;(· rintro w' ⟨s0,s1,s2,s3⟩;go_simp;with_reducible rfl);rotate_left;(· simp only [Act.put,z1_,z2_,z3_,i64_w,i32_w];rfl)
 refine take_ (i:=8) (N:=some 13) (v:=?_) (a':=?_) (mB_ 13 495) rfl rfl (take_ofW HT_.out HW_.out (by kernel_rfl)) (fun _ _ _ h=>h) (Or.inl ⟨by rfl,?_⟩) hHeld ?_ ?_;rotate_left;(· rintro w' ⟨s0,s1,s2,s3⟩;go_simp;with_reducible rfl);rotate_left;(· simp only [Act.put,z1_,z2_,z3_,i64_w,i32_w];rfl)
 refine one_ (i:=4) (N:=some 9) (mB_ 13 511) rfl rfl (one_of HT_.out (by kernel_rfl)) (by decide) (fun K hK=>?_);refine goes_ Try.func59 (by kernel_rfl) rfl #[.int .i8 a0_1,.int .i8 a1_1] (by rfl) rfl rfl (by (try simp only [List.map_toArray,List.map_cons,List.map_nil]);first|done|rfl|(simp only [List.length_drop,List.length_take];rfl)) ?_
 with_reducible refine (cmp_Compare_int8.calls a0_1 a1_1 t272 _ A3.out).mono ?_
 rintro e w' ⟨rfl,⟨nd,rfl⟩⟩;refine ⟨_,rfl,?_⟩;refine hK.out _ _ ⟨(kC_ BK270.out 0).trans rfl,(kC_ BK270.out 1).trans rfl,(kC_ BK271.out 0).trans rfl,(kC_ BK271.out 1).trans rfl⟩ (fun hHeld=>?_);clear hK K;refine norm_ (a':=?_) ?_ ?_;rotate_left
 · show Act.put _ (some 9) _ = _;simp only [Act.put,z1_,z2_,z3_,i64_w,i32_w];rfl
 refine one_ (i:=9) (N:=some 14) (mB_ 13 1023) rfl rfl (one_of HT_.out (by kernel_rfl)) (by decide) (fun K hK=>?_);refine goes_ Try.func59 (by kernel_rfl) rfl #[.int .i8 a0_0,.int .i8 a1_0] (by rfl) rfl rfl (by (try simp only [List.map_toArray,List.map_cons,List.map_nil]);first|done|rfl|(simp only [List.length_drop,List.length_take];rfl)) ?_
 with_reducible refine (cmp_Compare_int8.calls a0_0 a1_0 t273 _ A4.out).mono ?_
 rintro e w' ⟨rfl,⟨nd,rfl⟩⟩;refine ⟨_,rfl,?_⟩;refine hK.out _ _ ⟨(kC_ BK270.out 0).trans rfl,(kC_ BK270.out 1).trans rfl,(kC_ BK271.out 0).trans rfl,(kC_ BK271.out 1).trans rfl⟩ (fun hHeld=>?_);clear hK K;refine norm_ (a':=?_) ?_ ?_;rotate_left
 · show Act.put _ (some 14) _ = _;simp only [Act.put,z1_,z2_,z3_,i64_w,i32_w];rfl
 refine one_ (i:=10) (N:=some 15) (mB_ 13 2047) rfl rfl (one_of HT_.out (by kernel_rfl)) (by decide) (fun K hK=>?_);refine Kd.R_lit_step (Kd.int .i64) _ 3 ?hg (N:=15) ?hd (xs:=([t272,t273] : List Int)) (inner:=[.int .i64 t272,.int .i64 t273]) (ok:=fun _=>True) (okp:=fun _=>True) ?hr ?hp (fun _ hk=>hk) trivial (Below.refl _ _) (Nat.le_refl _) (by simp) ?_;(case hd=>rfl);(case hg=>rfl);(case hr=>first|(go_simp;done)|(go_simp;rfl));(case hp=>exact (Reps.one (show Kd.M (Kd.int .i64) _ _ _ t272 [.int .i64 t272] from rfl) (Reps.one (show Kd.M (Kd.int .i64) _ _ _ t273 [.int .i64 t273] from rfl) (Reps.none _ _))));intro v275 w9 ho10 hb hg_ hnew_;clear hg_ hnew_
 (first|rw [← Ny274.out] at ho10|(simp only [Int.reduceToNat] at ho10;rw [← Ny274.out] at ho10))
 have n0_:=am_ (Kd.R_lower ho10 (below_size (by repeat (first|(with_reducible first|exact HB.out|apply below_alloc|apply pw_below_drewN|apply below_drew1|refine below_set ?_ GE270.out|refine below_set ?_ GE271.out)|exact HB.out))));have n1_:=am_ (blk_below (g:=gb270) (o:=.cells #[.int .i8 a0_0,.int .i8 a0_1] 96 (0,0)) (by exact BK270.out) hb);have n2_:=am_ (blk_below (g:=gb271) (o:=.cells #[.int .i8 a1_0,.int .i8 a1_1] 96 (0,0)) (by exact BK271.out) hb);have n3_:=am_ (below_step (by repeat (first|(with_reducible first|exact HB.out|apply below_alloc|apply pw_below_drewN|apply below_drew1|refine below_set ?_ GE270.out|refine below_set ?_ GE271.out)|exact HB.out)) hb);clear BK270;clear BK271;clear HB;have HO276:=n0_;have BK270:=n1_;have BK271:=n2_;have HB:=n3_;clear n0_ n1_ n2_ n3_;clear hb ho10;obtain ⟨Ao11,co11,eo11⟩:=Kd.R_slice HO276.out
 (first|subst eo11|(injection eo11 with f1_ f2_ f3_;have f4_:=f1_.symm;have f5_:=f3_.symm;clear f1_ f2_ f3_;subst f4_;subst f5_))
 refine hK.out _ _ ⟨(kC_ BK270.out 0).trans rfl,(kC_ BK270.out 1).trans rfl,(kC_ BK271.out 0).trans rfl,(kC_ BK271.out 1).trans rfl⟩ (fun hHeld=>?_);clear hK K;refine norm_ (a':=?_) ?_ ?_;rotate_left
 · show Act.put _ (some 15) _ = _;simp only [Act.put,z1_,z2_,z3_,i64_w,i32_w];rfl
 refine one_ (i:=11) (N:=some 16) (mB_ 13 4095) rfl rfl (one_of HT_.out (by kernel_rfl)) (by decide) (fun K hK=>?_);refine goes_ Try.func58 (by kernel_rfl) rfl #[.slice Ao11 y274.length co11] (by rfl) rfl rfl (by (try simp only [List.map_toArray,List.map_cons,List.map_nil]);first|done|rfl|(simp only [List.length_drop,List.length_take];rfl)) ?_
 with_reducible refine (cmp_Or_int.calls k _ _ y274 t277 _ ?side1 ?side2 A5.out).mono ?_
 (case side1=>repeat (first|exact (Kd.R_reads' HO276.out).2.2|(with_reducible refine Kd.C_alloc ?_ _)|(with_reducible refine Kd.C_drewN ?_ _)|(with_reducible refine Kd.C_drew ?_)))
 (case side2=>exact (Kd.R_reads' HO276.out).2.1)
 rintro e w' ⟨rfl,⟨nd,rfl⟩⟩;refine ⟨_,rfl,?_⟩;refine hK.out _ _ ⟨(kC_ BK270.out 0).trans rfl,(kC_ BK270.out 1).trans rfl,(kC_ BK271.out 0).trans rfl,(kC_ BK271.out 1).trans rfl⟩ (fun hHeld=>?_);clear hK K;refine norm_ (a':=?_) ?_ ?_;rotate_left
 · show Act.put _ (some 16) _ = _;simp only [Act.put,z1_,z2_,z3_,i64_w,i32_w];rfl
 refine pure_ (i:=12) (N:=some 4) (v:=?_) (a':=?_) (mB_ 13 8191) rfl rfl (any_of HT_.out (by kernel_rfl)) (fun _ _ _ h=>h) (Or.inl ⟨by rfl,?_⟩) ?_ ?_;rotate_left;(· intro w';go_simp;with_reducible rfl);rotate_left;(· simp only [Act.put,z1_,z2_,z3_,i64_w,i32_w];rfl)
 refine done_ (done_of HT_.out (by kernel_rfl)) ?_
 try go_wp2
 go_ret
 exact ⟨by first|rfl|(simp [errW_none,errW_some] <;> rfl)|(simp [*,errW_none,errW_some] <;> rfl),by repeat (first|(with_reducible first|exact HB.out|apply below_alloc|apply pw_below_drewN|apply below_drew1|refine below_set ?_ GE270.out|refine below_set ?_ GE271.out)|exact HB.out)⟩
set_option maxHeartbeats 8000000 in
set_option maxRecDepth 100000 in
theorem impl_Slab_first.calls (a0_0 : Int) (a0_1 : Int) (a0_2 : Int) (a0_3 : Int) (r1 : Int) (r2 : Int) (w : World) (h : impl_Slab_first.f a0_0 a0_1 a0_2 a0_3 = some (r1, r2)) :
  Calls Try.prog 102 #[.agg #[.int .i8 a0_0,.int .i8 a0_1,.int .i8 a0_2,.int .i8 a0_3]] w fun e w'=>e = .returned (.agg #[.int .i8 r1,.int .i8 r2]) ∧ Below w.heap.size w w':=by
 have hu49:=Try.underlying49;have hu96:=Try.underlying96;have HB:=am_ (Below.refl w.heap.size w);have H : (some (a0_0,a0_1)) = some (r1,r2):=h;clear h;simp only [Option.some.injEq,Prod.mk.injEq] at H;obtain ⟨rfl,rfl⟩:=H
 go_enter Try.func102,Try.ntmps102
 go_wp2_with (first|((with_reducible refine gate_dst (N:=1) rfl ?_);refine box_event ?hg (N:=1) ?hd (cs:=#[.int .i8 a0_0,.int .i8 a0_1,.int .i8 a0_2,.int .i8 a0_3]) (t:=49) ?hr ?_;(case hd=>rfl);(case hg=>rfl);(case hr=>first|(go_simp;done)|(go_simp;rfl));intro gb278 hg w2 hbox hb;have n0_:=am_ (below_step (by exact HB.out) hb);have n1_:=am_ (hbox);have n2_:=am_ ((by rw [hg];exact (below_size (by exact HB.out)) : w.heap.size≤gb278));have n3_:=n2_;clear HB;have HB:=n0_;have BK278:=n1_;have GW278:=n2_;have GE278:=n3_;clear n0_ n1_ n2_ n3_;clear hb hbox hg)|((with_reducible refine gate_dst (N:=2) rfl ?_);refine box_event ?hg (N:=2) ?hd (cs:=#[.int .i8 0,.int .i8 0]) (t:=96) ?hr ?_;(case hd=>rfl);(case hg=>rfl);(case hr=>first|(go_simp;done)|(go_simp;rfl));intro gb279 hg w3 hbox hb;have n0_:=am_ (blk_below (g:=gb278) (o:=.cells #[.int .i8 a0_0,.int .i8 a0_1,.int .i8 a0_2,.int .i8 a0_3] 49 (0,0)) (by exact BK278.out) hb);have n1_:=am_ (below_step (by exact HB.out) hb);have n2_:=am_ (hbox);have n3_:=am_ ((by rw [hg];exact (below_size (by exact HB.out)) : w.heap.size≤gb279));have n4_:=n3_;have n5_:=am_ ((by rw [hg];exact nL_ (kL_ (g:=gb278) (o:=.cells #[.int .i8 a0_0,.int .i8 a0_1,.int .i8 a0_2,.int .i8 a0_3] 49 (0,0)) (by exact BK278.out)) : gb278 ≠ gb279));have n6_:=am_ ((by rw [hg];exact nG_ (kL_ (g:=gb278) (o:=.cells #[.int .i8 a0_0,.int .i8 a0_1,.int .i8 a0_2,.int .i8 a0_3] 49 (0,0)) (by exact BK278.out)) : gb279 ≠ gb278));clear BK278;clear HB;have BK278:=n0_;have HB:=n1_;have BK279:=n2_;have GW279:=n3_;have GE279:=n4_;have NB278_279:=n5_;have NB279_278:=n6_;clear n0_ n1_ n2_ n3_ n4_ n5_ n6_;clear hb hbox hg;have hnb4:=NB278_279.out;have hnc4:=NB279_278.out;have hcz5_0 : w3.cell? ⟨gb278,0,none⟩ = some (.int .i8 a0_0):=(kC_ BK278.out 0).trans rfl;have hcz5_1 : w3.cell? ⟨gb278,1,none⟩ = some (.int .i8 a0_1):=(kC_ BK278.out 1).trans rfl;have hcz5_2 : w3.cell? ⟨gb278,2,none⟩ = some (.int .i8 a0_2):=(kC_ BK278.out 2).trans rfl;have hcz5_3 : w3.cell? ⟨gb278,3,none⟩ = some (.int .i8 a0_3):=(kC_ BK278.out 3).trans rfl;have hfz5_0:=kF_ BK278.out 0;have hfz5_1:=kF_ BK278.out 1;have hfz5_2:=kF_ BK278.out 2;have hfz5_3:=kF_ BK278.out 3;have hcz6_0 : w3.cell? ⟨gb279,0,none⟩ = some (.int .i8 0):=(kC_ BK279.out 0).trans rfl;have hcz6_1 : w3.cell? ⟨gb279,1,none⟩ = some (.int .i8 0):=(kC_ BK279.out 1).trans rfl;have hfz6_0:=kF_ BK279.out 0;have hfz6_1:=kF_ BK279.out 1))
 refine bodyPost_ret (results_cell_row rfl _ _ gb279 96 #[.int .i8 a0_0,.int .i8 a0_1] (0,0) _ rfl (by (with_reducible repeat (first|apply kN_|apply kD_|apply kA_));refine blk_put (cs:=#[.int .i8 a0_0,.int .i8 0]) ?_ 1 _ rfl;(with_reducible repeat (first|apply kN_|apply kD_|apply kA_));refine blk_put (cs:=#[.int .i8 0,.int .i8 0]) ?_ 0 _ rfl;(with_reducible repeat (first|apply kN_|apply kD_|apply kA_));exact BK279.out) Try.underlying96 rfl (by kernel_rfl)) rfl ?_;exact ⟨by first|rfl|(simp [errW_none,errW_some] <;> rfl)|(simp [*,errW_none,errW_some] <;> rfl),by repeat (first|(with_reducible first|exact HB.out|apply below_alloc|apply pw_below_drewN|apply below_drew1|refine below_set ?_ GE278.out|refine below_set ?_ GE279.out)|exact HB.out)⟩
set_option maxHeartbeats 8000000 in
set_option maxRecDepth 100000 in
theorem impl_compareSlabs.calls (k : Nat) (a0_0 : Int) (a0_1 : Int) (a0_2 : Int) (a0_3 : Int) (a1_0 : Int) (a1_1 : Int) (a1_2 : Int) (a1_3 : Int) (r : Int) (w : World) (h : impl_compareSlabs.f k a0_0 a0_1 a0_2 a0_3 a1_0 a1_1 a1_2 a1_3 = some r) :
  Calls Try.prog 84 #[.agg #[.int .i8 a0_0,.int .i8 a0_1,.int .i8 a0_2,.int .i8 a0_3],.agg #[.int .i8 a1_0,.int .i8 a1_1,.int .i8 a1_2,.int .i8 a1_3]] w fun e w'=>e = .returned (.int .i64 r) ∧ Below w.heap.size w w':=by
 have hu49:=Try.underlying49;have HB:=am_ (Below.refl w.heap.size w);have H : ((impl_Slab_first.f a0_0 a0_1 a0_2 a0_3).bind fun bt282=>((impl_Slab_first.f a1_0 a1_1 a1_2 a1_3).bind fun bt284=>((impl_compareCells.f k bt282.1 bt282.2 bt284.1 bt284.2).bind fun t286=>(some t286)))) = some r:=h;clear h;replace H:=Option.bind_eq_some_iff.mp H;obtain ⟨⟨t282,t283⟩,A30,H⟩:=H;replace H : ((impl_Slab_first.f a1_0 a1_1 a1_2 a1_3).bind fun bt284=>((impl_compareCells.f k t282 t283 bt284.1 bt284.2).bind fun t286=>(some t286))) = some r:=H;have A3:=am_ A30;clear A30;replace H:=Option.bind_eq_some_iff.mp H;obtain ⟨⟨t284,t285⟩,A40,H⟩:=H;replace H : ((impl_compareCells.f k t282 t283 t284 t285).bind fun t286=>(some t286)) = some r:=H;have A4:=am_ A40;clear A40;replace H:=Option.bind_eq_some_iff.mp H;obtain ⟨t286,A50,H⟩:=H;replace H : (some t286) = some r:=H;have A5:=am_ A50;clear A50;obtain rfl:=Option.some.inj H
 go_enter Try.func84,Try.ntmps84
 try go_wp2_with (first|((with_reducible refine gate_dst (N:=2) rfl ?_);refine box_event ?hg (N:=2) ?hd (cs:=#[.int .i8 a0_0,.int .i8 a0_1,.int .i8 a0_2,.int .i8 a0_3]) (t:=49) ?hr ?_;(case hd=>rfl);(case hg=>rfl);(case hr=>first|(go_simp;done)|(go_simp;rfl));intro gb280 hg w6 hbox hb;have n0_:=am_ (below_step (by exact HB.out) hb);have n1_:=am_ (hbox);have n2_:=am_ ((by rw [hg];exact (below_size (by exact HB.out)) : w.heap.size≤gb280));have n3_:=n2_;clear HB;have HB:=n0_;have BK280:=n1_;have GW280:=n2_;have GE280:=n3_;clear n0_ n1_ n2_ n3_;clear hb hbox hg)|((with_reducible refine gate_dst (N:=3) rfl ?_);refine box_event ?hg (N:=3) ?hd (cs:=#[.int .i8 a1_0,.int .i8 a1_1,.int .i8 a1_2,.int .i8 a1_3]) (t:=49) ?hr ?_;(case hd=>rfl);(case hg=>rfl);(case hr=>first|(go_simp;done)|(go_simp;rfl));intro gb281 hg w7 hbox hb;have n0_:=am_ (blk_below (g:=gb280) (o:=.cells #[.int .i8 a0_0,.int .i8 a0_1,.int .i8 a0_2,.int .i8 a0_3] 49 (0,0)) (by exact BK280.out) hb);have n1_:=am_ (below_step (by exact HB.out) hb);have n2_:=am_ (hbox);have n3_:=am_ ((by rw [hg];exact (below_size (by exact HB.out)) : w.heap.size≤gb281));have n4_:=n3_;have n5_:=am_ ((by rw [hg];exact nL_ (kL_ (g:=gb280) (o:=.cells #[.int .i8 a0_0,.int .i8 a0_1,.int .i8 a0_2,.int .i8 a0_3] 49 (0,0)) (by exact BK280.out)) : gb280 ≠ gb281));have n6_:=am_ ((by rw [hg];exact nG_ (kL_ (g:=gb280) (o:=.cells #[.int .i8 a0_0,.int .i8 a0_1,.int .i8 a0_2,.int .i8 a0_3] 49 (0,0)) (by exact BK280.out)) : gb281 ≠ gb280));clear BK280;clear HB;have BK280:=n0_;have HB:=n1_;have BK281:=n2_;have GW281:=n3_;have GE281:=n4_;have NB280_281:=n5_;have NB281_280:=n6_;clear n0_ n1_ n2_ n3_ n4_ n5_ n6_;clear hb hbox hg))
 have n0_:=am_ (kD_ BK280.out);have n1_:=am_ (kD_ BK281.out);have n2_:=am_ (below_drew1 HB.out);clear BK280;clear BK281;clear HB;have BK280:=n0_;have BK281:=n1_;have HB:=n2_;clear n0_ n1_ n2_;refine start_ (n:=6) (S:=fun w'=>w'.cell? ⟨gb280,0,none⟩ = some (.int .i8 a0_0) ∧ w'.cell? ⟨gb280,1,none⟩ = some (.int .i8 a0_1) ∧ w'.cell? ⟨gb280,2,none⟩ = some (.int .i8 a0_2) ∧ w'.cell? ⟨gb280,3,none⟩ = some (.int .i8 a0_3) ∧ w'.cell? ⟨gb281,0,none⟩ = some (.int .i8 a1_0) ∧ w'.cell? ⟨gb281,1,none⟩ = some (.int .i8 a1_1) ∧ w'.cell? ⟨gb281,2,none⟩ = some (.int .i8 a1_2) ∧ w'.cell? ⟨gb281,3,none⟩ = some (.int .i8 a1_3)) (ds:=[]) (mB_ 6 0) (by kernel_rfl) rfl rfl ⟨(kC_ BK280.out 0).trans rfl,(kC_ BK280.out 1).trans rfl,(kC_ BK280.out 2).trans rfl,(kC_ BK280.out 3).trans rfl,(kC_ BK281.out 0).trans rfl,(kC_ BK281.out 1).trans rfl,(kC_ BK281.out 2).trans rfl,(kC_ BK281.out 3).trans rfl⟩ (fun hHeld=>?_);generalize w7.drew = w8 at BK280 BK281 HB hHeld ⊢;refine take_ (i:=0) (N:=some 5) (v:=?_) (a':=?_) (mB_ 6 1) rfl rfl (by kernel_rfl) (fun _ _ _ h=>h) (Or.inl ⟨by rfl,?_⟩) hHeld ?_ ?_;rotate_left;(· rintro w' ⟨s0,s1,s2,s3,s4,s5,s6,s7⟩;go_simp;with_reducible rfl);rotate_left;(· simp only [Act.put,z1_,z2_,z3_,i64_w,i32_w];rfl)
 refine take_ (i:=2) (N:=some 7) (v:=?_) (a':=?_) (mB_ 6 5) rfl rfl (by kernel_rfl) (fun _ _ _ h=>h) (Or.inl ⟨by rfl,?_⟩) hHeld ?_ ?_;rotate_left;(· rintro w' ⟨s0,s1,s2,s3,s4,s5,s6,s7⟩;go_simp;with_reducible rfl);rotate_left;(· simp only [Act.put,z1_,z2_,z3_,i64_w,i32_w];rfl)
 refine one_ (i:=1) (N:=some 6) (mB_ 6 7) rfl rfl (by kernel_rfl) (by decide) (fun K hK=>?_);refine goes_ Try.func102 (by kernel_rfl) rfl #[.agg #[.int .i8 a0_0,.int .i8 a0_1,.int .i8 a0_2,.int .i8 a0_3]] (by rfl) rfl rfl (by (try simp only [List.map_toArray,List.map_cons,List.map_nil]);first|done|rfl|(simp only [List.length_drop,List.length_take];rfl)) ?_
 with_reducible refine (impl_Slab_first.calls a0_0 a0_1 a0_2 a0_3 t282 t283 _ A3.out).mono ?_
 rintro e w9 ⟨rfl,hb⟩;refine ⟨_,rfl,?_⟩;have n0_:=am_ (blk_below (g:=gb280) (o:=.cells #[.int .i8 a0_0,.int .i8 a0_1,.int .i8 a0_2,.int .i8 a0_3] 49 (0,0)) (by exact BK280.out) hb);have n1_:=am_ (blk_below (g:=gb281) (o:=.cells #[.int .i8 a1_0,.int .i8 a1_1,.int .i8 a1_2,.int .i8 a1_3] 49 (0,0)) (by exact BK281.out) hb);have n2_:=am_ (below_step (by exact HB.out) hb);clear BK280;clear BK281;clear HB;have BK280:=n0_;have BK281:=n1_;have HB:=n2_;clear n0_ n1_ n2_;(try clear hb);(try clear hb2);(try clear hk);(try clear hi);refine hK.out _ _ ⟨(kC_ BK280.out 0).trans rfl,(kC_ BK280.out 1).trans rfl,(kC_ BK280.out 2).trans rfl,(kC_ BK280.out 3).trans rfl,(kC_ BK281.out 0).trans rfl,(kC_ BK281.out 1).trans rfl,(kC_ BK281.out 2).trans rfl,(kC_ BK281.out 3).trans rfl⟩ (fun hHeld=>?_);clear hK K;refine norm_ (a':=?_) ?_ ?_;rotate_left
 · show Act.put _ (some 6) _ = _;simp only [Act.put,z1_,z2_,z3_,i64_w,i32_w];rfl
 refine one_ (i:=3) (N:=some 8) (mB_ 6 15) rfl rfl (by kernel_rfl) (by decide) (fun K hK=>?_);refine goes_ Try.func102 (by kernel_rfl) rfl #[.agg #[.int .i8 a1_0,.int .i8 a1_1,.int .i8 a1_2,.int .i8 a1_3]] (by rfl) rfl rfl (by (try simp only [List.map_toArray,List.map_cons,List.map_nil]);first|done|rfl|(simp only [List.length_drop,List.length_take];rfl)) ?_
 with_reducible refine (impl_Slab_first.calls a1_0 a1_1 a1_2 a1_3 t284 t285 _ A4.out).mono ?_
 rintro e w10 ⟨rfl,hb⟩;refine ⟨_,rfl,?_⟩;have n0_:=am_ (blk_below (g:=gb280) (o:=.cells #[.int .i8 a0_0,.int .i8 a0_1,.int .i8 a0_2,.int .i8 a0_3] 49 (0,0)) (by exact BK280.out) hb);have n1_:=am_ (blk_below (g:=gb281) (o:=.cells #[.int .i8 a1_0,.int .i8 a1_1,.int .i8 a1_2,.int .i8 a1_3] 49 (0,0)) (by exact BK281.out) hb);have n2_:=am_ (below_step (by exact HB.out) hb);clear BK280;clear BK281;clear HB;have BK280:=n0_;have BK281:=n1_;have HB:=n2_;clear n0_ n1_ n2_;(try clear hb);(try clear hb2);(try clear hk);(try clear hi);refine hK.out _ _ ⟨(kC_ BK280.out 0).trans rfl,(kC_ BK280.out 1).trans rfl,(kC_ BK280.out 2).trans rfl,(kC_ BK280.out 3).trans rfl,(kC_ BK281.out 0).trans rfl,(kC_ BK281.out 1).trans rfl,(kC_ BK281.out 2).trans rfl,(kC_ BK281.out 3).trans rfl⟩ (fun hHeld=>?_);clear hK K;refine norm_ (a':=?_) ?_ ?_;rotate_left
 · show Act.put _ (some 8) _ = _;simp only [Act.put,z1_,z2_,z3_,i64_w,i32_w];rfl
 refine one_ (i:=4) (N:=some 9) (mB_ 6 31) rfl rfl (by kernel_rfl) (by decide) (fun K hK=>?_);refine goes_ Try.func101 (by kernel_rfl) rfl #[.agg #[.int .i8 t282,.int .i8 t283],.agg #[.int .i8 t284,.int .i8 t285]] (by rfl) rfl rfl (by (try simp only [List.map_toArray,List.map_cons,List.map_nil]);first|done|rfl|(simp only [List.length_drop,List.length_take];rfl)) ?_
 with_reducible refine (impl_compareCells.calls k t282 t283 t284 t285 t286 _ A5.out).mono ?_
 rintro e w11 ⟨rfl,hb⟩;refine ⟨_,rfl,?_⟩;have n0_:=am_ (blk_below (g:=gb280) (o:=.cells #[.int .i8 a0_0,.int .i8 a0_1,.int .i8 a0_2,.int .i8 a0_3] 49 (0,0)) (by exact BK280.out) hb);have n1_:=am_ (blk_below (g:=gb281) (o:=.cells #[.int .i8 a1_0,.int .i8 a1_1,.int .i8 a1_2,.int .i8 a1_3] 49 (0,0)) (by exact BK281.out) hb);have n2_:=am_ (below_step (by exact HB.out) hb);clear BK280;clear BK281;clear HB;have BK280:=n0_;have BK281:=n1_;have HB:=n2_;clear n0_ n1_ n2_;(try clear hb);(try clear hb2);(try clear hk);(try clear hi);refine hK.out _ _ ⟨(kC_ BK280.out 0).trans rfl,(kC_ BK280.out 1).trans rfl,(kC_ BK280.out 2).trans rfl,(kC_ BK280.out 3).trans rfl,(kC_ BK281.out 0).trans rfl,(kC_ BK281.out 1).trans rfl,(kC_ BK281.out 2).trans rfl,(kC_ BK281.out 3).trans rfl⟩ (fun hHeld=>?_);clear hK K;refine norm_ (a':=?_) ?_ ?_;rotate_left
 · show Act.put _ (some 9) _ = _;simp only [Act.put,z1_,z2_,z3_,i64_w,i32_w];rfl
 refine pure_ (i:=5) (N:=some 4) (v:=?_) (a':=?_) (mB_ 6 63) rfl rfl (by kernel_rfl) (fun _ _ _ h=>h) (Or.inl ⟨by rfl,?_⟩) ?_ ?_;rotate_left;(· intro w';go_simp;with_reducible rfl);rotate_left;(· simp only [Act.put,z1_,z2_,z3_,i64_w,i32_w];rfl)
 refine done_ (by kernel_rfl) ?_
 try go_wp2
 go_ret
 exact ⟨by first|rfl|(simp [errW_none,errW_some] <;> rfl)|(simp [*,errW_none,errW_some] <;> rfl),by repeat (first|(with_reducible first|exact HB.out|apply below_alloc|apply pw_below_drewN|apply below_drew1|refine below_set ?_ GE280.out|refine below_set ?_ GE281.out)|exact HB.out)⟩
end Srt
theorem slices_SortFunc_impl_Slab_at_impl_compareSlabs.or2 (a b : Int) : cmp_Or_int.f 9 [a, b] = some (if a = 0 then b else a) := by
 unfold cmp_Or_int.f
 simp only [cmp_Or_int.l0,List.length_cons,List.length_nil,rd]
 by_cases h : a = 0
 ·
  subst h
  by_cases h2 : b = 0
  · subst h2;first|decide|simp [wrap64]
  · simp [h2,wrap64]
 · simp [h]
theorem slices_SortFunc_impl_Slab_at_impl_compareSlabs.cmp8 (a b : Int) : cmp_Compare_int8.f a b = some (cmpZ a b) := by
 have h : ∀ x,cmp_isNaN_int8.f x = some false:=fun x=>by unfold cmp_isNaN_int8.f;simp
 unfold cmp_Compare_int8.f cmpZ
 rw [h,h];simp only [Option.bind_some,Bool.false_eq_true,if_false]
 split
 · rfl
 · split <;> rfl
def slices_SortFunc_impl_Slab_at_impl_compareSlabs.cf (x y : S49) : Int := cmpZ2 x.f1 y.f1 x.f0 y.f0
theorem slices_SortFunc_impl_Slab_at_impl_compareSlabs.cf_some (x y : S49) : impl_compareSlabs.f 9 x.f0 x.f1 x.f2 x.f3 y.f0 y.f1 y.f2 y.f3 = some (slices_SortFunc_impl_Slab_at_impl_compareSlabs.cf x y) := by
 simp only [impl_compareCells.f,impl_Slab_first.f,impl_compareSlabs.f,Option.bind_some,slices_SortFunc_impl_Slab_at_impl_compareSlabs.cmp8,slices_SortFunc_impl_Slab_at_impl_compareSlabs.or2]
 rfl
def slices_SortFunc_impl_Slab_at_impl_compareSlabs.enc (x : S49) : List Value := [.int .i8 x.f0, .int .i8 x.f1, .int .i8 x.f2, .int .i8 x.f3]
instance : Inhabited S49 := ⟨⟨0, 0, 0, 0⟩⟩
section
open Go.Shelf
def slices_SortFunc_impl_Slab_at_impl_compareSlabs_lays_ren : Go.Shelf.Ren := ⟨fun | 6 => 56 | 15 => 89 | 14 => 88 | 28 => 111 | 29 => 112 | 20 => 103 | 21 => 104 | 22 => 105 | 23 => 106 | 24 => 107 | 25 => 108 | 26 => 109 | 27 => 110 | 46 => 123 | 47 => 124 | 48 => 125 | 49 => 126 | 50 => 127 | 57 => 132 | n => n, fun | 22 => 27 | 24 => 49 | 25 => 80 | 3 => 3 | 39 => 110 | 0 => 0 | 53 => 128 | 55 => 130 | 4 => 4 | 46 => 121 | 45 => 120 | 50 => 125 | 5 => 5 | 9 => 9 | 66 => 137 | 70 => 141 | 76 => 146 | 77 => 147 | n => n, fun | n => n⟩
theorem slices_SortFunc_impl_Slab_at_impl_compareSlabs_lays : Go.Proofs.SlLaysF0.n6 Try.prog slices_SortFunc_impl_Slab_at_impl_compareSlabs_lays_ren := {
 mixed:=by kernel_rfl
 f6:=⟨Try.f56.name,by decide,Try.func56.trans (congrArg some (by kernel_rfl))⟩
 f14:=⟨Try.f88.name,by decide,Try.func88.trans (congrArg some (by kernel_rfl))⟩
 f15:=Try.func89.trans (congrArg some (by kernel_rfl))
 f20:=⟨Try.f103.name,by decide,Try.func103.trans (congrArg some (by kernel_rfl))⟩
 f21:=⟨Try.f104.name,by decide,Try.func104.trans (congrArg some (by kernel_rfl))⟩
 f22:=⟨Try.f105.name,by decide,Try.func105.trans (congrArg some (by kernel_rfl))⟩
 f23:=⟨Try.f106.name,by decide,Try.func106.trans (congrArg some (by kernel_rfl))⟩
 f24:=⟨Try.f107.name,by decide,Try.func107.trans (congrArg some (by kernel_rfl))⟩
 f25:=⟨Try.f108.name,by decide,Try.func108.trans (congrArg some (by kernel_rfl))⟩
 f26:=⟨Try.f109.name,by decide,Try.func109.trans (congrArg some (by kernel_rfl))⟩
 f27:=⟨Try.f110.name,by decide,Try.func110.trans (congrArg some (by kernel_rfl))⟩
 f28:=Try.func111.trans (congrArg some (by kernel_rfl))
 f29:=Try.func112.trans (congrArg some (by kernel_rfl))
 f46:=⟨Try.f123.name,by decide,Try.func123.trans (congrArg some (by kernel_rfl))⟩
 f47:=Try.func124.trans (congrArg some (by kernel_rfl))
 f48:=Try.func125.trans (congrArg some (by kernel_rfl))
 f49:=⟨Try.f126.name,by decide,Try.func126.trans (congrArg some (by kernel_rfl))⟩
 f50:=⟨Try.f127.name,by decide,Try.func127.trans (congrArg some (by kernel_rfl))⟩
 f57:=⟨Try.f132.name,by decide,Try.func132.trans (congrArg some (by kernel_rfl))⟩
 t0:=Try.underlying0
 a0:=Try.isAgg0
 z0:=Try.sizeOf0
 v0:=Try.zeroValue0
 t3:=Try.underlying3
 a3:=Try.isAgg3
 z3:=Try.sizeOf3
 v3:=Try.zeroValue3
 t4:=Try.underlying4
 a4:=Try.isAgg4
 z4:=Try.sizeOf4
 v4:=Try.zeroValue4
 t5:=Try.underlying5
 a5:=Try.isAgg5
 z5:=Try.sizeOf5
 v5:=Try.zeroValue5
 t9:=Try.underlying9
 a9:=Try.isAgg9
 z9:=Try.sizeOf9
 v9:=Try.zeroValue9
 t22:=Try.underlying27
 a22:=Try.isAgg27
 z22:=Try.sizeOf27
 v22:=Try.zeroValue27
 t25:=Try.underlying80
 a25:=Try.isAgg80
 z25:=Try.sizeOf80
 v25:=Try.zeroValue80
 t39:=Try.underlying110
 a39:=Try.isAgg110
 z39:=Try.sizeOf110
 v39:=Try.zeroValue110
 t45:=Try.underlying120
 a45:=Try.isAgg120
 z45:=Try.sizeOf120
 v45:=Try.zeroValue120
 t46:=Try.underlying121
 a46:=Try.isAgg121
 z46:=Try.sizeOf121
 v46:=Try.zeroValue121
 t50:=Try.underlying125
 a50:=Try.isAgg125
 z50:=Try.sizeOf125
 v50:=Try.zeroValue125
 t53:=Try.underlying128
 a53:=Try.isAgg128
 z53:=Try.sizeOf128
 v53:=Try.zeroValue128
 t55:=Try.underlying130
 a55:=Try.isAgg130
 z55:=Try.sizeOf130
 v55:=Try.zeroValue130
 t66:=Try.underlying137
 a66:=Try.isAgg137
 z66:=Try.sizeOf137
 v66:=Try.zeroValue137
 t70:=Try.underlying141
 a70:=Try.isAgg141
 z70:=Try.sizeOf141
 v70:=Try.zeroValue141
 t76:=Try.underlying146
 a76:=Try.isAgg146
 z76:=Try.sizeOf146
 v76:=Try.zeroValue146
 t77:=Try.underlying147
 a77:=Try.isAgg147
 z77:=Try.sizeOf147
 v77:=Try.zeroValue147 }
end
def slices_SortFunc_impl_Slab_at_impl_compareSlabs.f (l0 : List S49) : Option (List S49) := if l0.length < 4611686018427387904 then some (sort2 (fun x : S49 => x.f1) (fun x : S49 => x.f0) l0) else none
theorem slices_SortFunc_impl_Slab_at_impl_compareSlabs.cmpLays (blk off size : Nat) (w : World) : Go.Proofs.CmpLays Try.prog 84 #[] slices_SortFunc_impl_Slab_at_impl_compareSlabs.enc 4 slices_SortFunc_impl_Slab_at_impl_compareSlabs.cf blk off size w := fun m os dk _ x y =>
 (Srt.impl_compareSlabs.calls 9 x.f0 x.f1 x.f2 x.f3 y.f0 y.f1 y.f2 y.f3 _ _ (slices_SortFunc_impl_Slab_at_impl_compareSlabs.cf_some x y)).mono fun _ _ ⟨he,hb⟩=>⟨he,Srt.grow_of hb⟩
theorem slices_SortFunc_impl_Slab_at_impl_compareSlabs.enc_of (w : World) (base : Nat) (ok : Nat → Prop) (x : S49) (cs : List Value) (h : k49.M w base ok x cs) : cs = slices_SortFunc_impl_Slab_at_impl_compareSlabs.enc x := k49_openM h
theorem slices_SortFunc_impl_Slab_at_impl_compareSlabs.of_enc (w : World) (base : Nat) (ok : Nat → Prop) (x : S49) : k49.M w base ok x (slices_SortFunc_impl_Slab_at_impl_compareSlabs.enc x) := k49_mkM w base ok x
set_option maxHeartbeats 8000000 in
set_option maxRecDepth 100000 in
theorem slices_SortFunc_impl_Slab_at_impl_compareSlabs.calls (P0_ : Nat → Prop) (u9000_ : Value) (l0 : List S49) (r0 : List S49) (w0 w : World) (hB : Below w0.heap.size w0 w) (ho0 : Kd.R k49 49 w w0.heap.size P0_ u9000_ l0) (h : slices_SortFunc_impl_Slab_at_impl_compareSlabs.f l0 = some r0) :
  Calls Try.prog 56 #[u9000_,.func (.func 84) #[] #[]] w fun e w'=>e = .returned (.tuple #[]) ∧ Kd.R k49 49 w' w0.heap.size (fun k_=>(P0_ k_ ∨ w.heap.size≤k_)) u9000_ r0 ∧ Below w0.heap.size w0 w' ∧ Kept w w' (fun k_=>P0_ k_):=by
 unfold slices_SortFunc_impl_Slab_at_impl_compareSlabs.f at h
 by_cases hs : l0.length < 4611686018427387904
 ·
  rw [if_pos hs] at h;obtain rfl:=Option.some.inj h;clear h;have hR:=ho0;obtain ⟨hok,inner,⟨hlen,hr⟩,hreps⟩:=ho0
  rcases hr with ⟨hv,h0⟩|⟨g,cap,cur,hv,hb,hh,hn,hcap,hsz,htk⟩
  ·
   subst hv;obtain rfl : l0 = []:=List.eq_nil_of_length_eq_zero h0;have hp : sort2 (fun x : S49=>x.f1) (fun x : S49=>x.f0) [] = []:=List.eq_nil_of_length_eq_zero (sort2_perm _ _ _).length_eq;rw [hp];have hcon:=Go.Proofs.AnyF.slices_SortFunc_none slices_SortFunc_impl_Slab_at_impl_compareSlabs_lays none 0 (.func (.func 84) #[] #[]) w;refine Calls.mono (show Calls Try.prog 56 #[.slice none 0 0,.func (.func 84) #[] #[]] w _ from hcon) ?_;rintro e w' ⟨rfl,rfl⟩;exact ⟨rfl,Kd.R_nil _ _ _ _ _,hB,Kept.refl _ _⟩
  ·
   subst hv;obtain ⟨hH,hg,-,-,-⟩:=holds_row (enc:=slices_SortFunc_impl_Slab_at_impl_compareSlabs.enc) slices_SortFunc_impl_Slab_at_impl_compareSlabs.enc_of (fun _=>rfl) hR;have eg:=enters_of Try.func84 (by kernel_rfl) rfl;have hcon:=Go.Proofs.AnyQ.slices_SortFunc_eq slices_SortFunc_impl_Slab_at_impl_compareSlabs_lays 4 Try.isAgg49 Try.sizeOf49 slices_SortFunc_impl_Slab_at_impl_compareSlabs.enc (fun _=>rfl) (fun x v hv=>by simp [slices_SortFunc_impl_Slab_at_impl_compareSlabs.enc] at hv;rcases hv with rfl|rfl|rfl|rfl <;> rfl) slices_SortFunc_impl_Slab_at_impl_compareSlabs.cf (swo2 _ _) 84 #[] g 0 cap l0.toArray w eg (slices_SortFunc_impl_Slab_at_impl_compareSlabs.cmpLays _ _ _ _) hH hg (by simpa using hs);refine Calls.mono (show Calls Try.prog 56 #[.slice (some ⟨g,0,none⟩) l0.length cap,.func (.func 84) #[] #[]] w _ from hcon) ?_;rintro e w' ⟨rfl,n,os,rfl⟩;exact ⟨rfl,sorted_row (enc:=slices_SortFunc_impl_Slab_at_impl_compareSlabs.enc) slices_SortFunc_impl_Slab_at_impl_compareSlabs.of_enc (fun _=>rfl) hR hB (sort2_size _ _ _)⟩
 ·
  rw [if_neg hs] at h
  cases h
end Go.Proofs.Ytjadgmafgkoanaa.Q
