-- Trimmed by a program.
import Derived.Test.YtgpfjmkmopjfbaaXQ0
import Derived.Test.YtgpfjmkmopjfbaaXQ8
import Derived.Test.YtgpfjmkmopjfbaaXQ9
import Derived.Shelf.SlSortCmp.NoneTotal
import Derived.Test.YtgpfjmkmopjfbaaXQWs
namespace Go.Proofs.Ytgpfjmkmopjfbaa.Q
open RowKit YtgpfjmkmopjfbaaW.PrintWords YtgpfjmkmopjfbaaW.PrintLast YtgpfjmkmopjfbaaW.PrintMore
attribute [local go_sem] max2_int min2_int max_two min_two max_three min_three max_four min_four
set_option linter.unusedVariables false
set_option linter.unusedSimpArgs false
namespace Srt
set_option maxHeartbeats 8000000 in
set_option maxRecDepth 100000 in
theorem impl_compareCells.calls (k : Nat) (a0_0 : Int) (a0_1 : Int) (a1_0 : Int) (a1_1 : Int) (r : Int) (w : World) (h : impl_compareCells.f k a0_0 a0_1 a1_0 a1_1 = some r) :
  Calls Try.prog 63 #[.agg #[.int .i8 a0_0,.int .i8 a0_1],.agg #[.int .i8 a1_0,.int .i8 a1_1]] w fun e w'=>e = .returned (.int .i64 r) ∧ Below w.heap.size w w':=by
 have hu66:=Try.underlying66;have HB:=am_ (Below.refl w.heap.size w);have H : ((cmp_Compare_int8.f a0_1 a1_1).bind fun t188=>((cmp_Compare_int8.f a0_0 a1_0).bind fun t189=>((cmp_Or_int.f k (([t188,t189] : List Int))).bind fun t193=>(some t193)))) = some r:=h;clear h;replace H:=Option.bind_eq_some_iff.mp H;obtain ⟨t188,A30,H⟩:=H;replace H : ((cmp_Compare_int8.f a0_0 a1_0).bind fun t189=>((cmp_Or_int.f k (([t188,t189] : List Int))).bind fun t193=>(some t193))) = some r:=H;have A3:=am_ A30;clear A30;replace H:=Option.bind_eq_some_iff.mp H;obtain ⟨t189,A40,H⟩:=H;replace H : ((cmp_Or_int.f k (([t188,t189] : List Int))).bind fun t193=>(some t193)) = some r:=H;have A4:=am_ A40;clear A40;obtain ⟨y190,hy190⟩ : ∃ y_ : List Int,y_ = (([t188,t189] : List Int)):=⟨_,rfl⟩
 replace H : ((cmp_Or_int.f k y190).bind fun t193=>(some t193)) = some r:=by first|(rw [hy190];with_reducible exact H)|(have H2_:=(Option.bind_some _ _).symm.trans H;rw [hy190];with_reducible exact H2_)|(have H2_:=(Option.bind_some _ _).symm.trans H;with_reducible exact H2_)|with_reducible exact H|(rw [hy190];exact H)|exact H
 have Ny190:=am_ hy190;clear hy190;replace H:=Option.bind_eq_some_iff.mp H;obtain ⟨t193,A50,H⟩:=H;replace H : (some t193) = some r:=H;have A5:=am_ A50;clear A50;obtain rfl:=Option.some.inj H
 go_enter Try.func63,Try.ntmps63
 try go_wp2_with (first|((with_reducible refine gate_dst (N:=2) rfl ?_);refine box_event ?hg (N:=2) ?hd (cs:=#[.int .i8 a0_0,.int .i8 a0_1]) (t:=66) ?hr ?_;(case hd=>rfl);(case hg=>rfl);(case hr=>first|(go_simp;done)|(go_simp;rfl));intro gb186 hg w6 hbox hb;have n0_:=am_ (below_step (by exact HB.out) hb);have n1_:=am_ (hbox);have n2_:=am_ ((by rw [hg];exact (below_size (by exact HB.out)) : w.heap.size≤gb186));have n3_:=n2_;clear HB;have HB:=n0_;have BK186:=n1_;have GW186:=n2_;have GE186:=n3_;clear n0_ n1_ n2_ n3_;clear hb hbox hg)|((with_reducible refine gate_dst (N:=3) rfl ?_);refine box_event ?hg (N:=3) ?hd (cs:=#[.int .i8 a1_0,.int .i8 a1_1]) (t:=66) ?hr ?_;(case hd=>rfl);(case hg=>rfl);(case hr=>first|(go_simp;done)|(go_simp;rfl));intro gb187 hg w7 hbox hb;have n0_:=am_ (blk_below (g:=gb186) (o:=.cells #[.int .i8 a0_0,.int .i8 a0_1] 66 (0,0)) (by exact BK186.out) hb);have n1_:=am_ (below_step (by exact HB.out) hb);have n2_:=am_ (hbox);have n3_:=am_ ((by rw [hg];exact (below_size (by exact HB.out)) : w.heap.size≤gb187));have n4_:=n3_;have n5_:=am_ ((by rw [hg];exact nL_ (kL_ (g:=gb186) (o:=.cells #[.int .i8 a0_0,.int .i8 a0_1] 66 (0,0)) (by exact BK186.out)) : gb186 ≠ gb187));have n6_:=am_ ((by rw [hg];exact nG_ (kL_ (g:=gb186) (o:=.cells #[.int .i8 a0_0,.int .i8 a0_1] 66 (0,0)) (by exact BK186.out)) : gb187 ≠ gb186));clear BK186;clear HB;have BK186:=n0_;have HB:=n1_;have BK187:=n2_;have GW187:=n3_;have GE187:=n4_;have NB186_187:=n5_;have NB187_186:=n6_;clear n0_ n1_ n2_ n3_ n4_ n5_ n6_;clear hb hbox hg))
 replace BK186:=am_ (kD_ BK186.out);replace BK187:=am_ (kD_ BK187.out);replace HB:=am_ (below_drew1 HB.out);refine start_ (n:=13) (S:=fun w'=>w'.cell? ⟨gb186,0,none⟩ = some (.int .i8 a0_0) ∧ w'.cell? ⟨gb186,1,none⟩ = some (.int .i8 a0_1) ∧ w'.cell? ⟨gb187,0,none⟩ = some (.int .i8 a1_0) ∧ w'.cell? ⟨gb187,1,none⟩ = some (.int .i8 a1_1)) (ds:=[]) (mB_ 13 0) (by kernel_rfl) rfl rfl ⟨(kC_ BK186.out 0).trans rfl,(kC_ BK186.out 1).trans rfl,(kC_ BK187.out 0).trans rfl,(kC_ BK187.out 1).trans rfl⟩ (fun hHeld=>?_);refine with_tabW impl_compareCells.tab1 impl_compareCells.bits1 (fun HT_ HW_=>?_);generalize w7.drew = w8 at BK186 BK187 HB hHeld ⊢;refine pure_ (i:=0) (N:=some 5) (v:=?_) (a':=?_) (mB_ 13 1) rfl rfl (any_of HT_.out (by kernel_rfl)) (fun _ _ _ h=>h) (Or.inl ⟨by rfl,?_⟩) ?_ ?_;rotate_left;(· intro w';go_simp;with_reducible rfl);rotate_left;(· simp only [Act.put,z1_,z2_,z3_,i64_w,i32_w];rfl)
 refine pure_ (i:=2) (N:=some 7) (v:=?_) (a':=?_) (mB_ 13 5) rfl rfl (any_of HT_.out (by kernel_rfl)) (fun _ _ _ h=>h) (Or.inl ⟨by rfl,?_⟩) ?_ ?_;rotate_left;(· intro w';go_simp;with_reducible rfl);rotate_left;(· simp only [Act.put,z1_,z2_,z3_,i64_w,i32_w];rfl)
 refine pure_ (i:=5) (N:=some 10) (v:=?_) (a':=?_) (mB_ 13 37) rfl rfl (any_of HT_.out (by kernel_rfl)) (fun _ _ _ h=>h) (Or.inl ⟨by rfl,?_⟩) ?_ ?_;rotate_left;(· intro w';go_simp;with_reducible rfl);rotate_left;(· simp only [Act.put,z1_,z2_,z3_,i64_w,i32_w];rfl)
 refine pure_ (i:=7) (N:=some 12) (v:=?_) (a':=?_) (mB_ 13 165) rfl rfl (any_of HT_.out (by kernel_rfl)) (fun _ _ _ h=>h) (Or.inl ⟨by rfl,?_⟩) ?_ ?_;rotate_left;(· intro w';go_simp;with_reducible rfl);rotate_left;(· simp only [Act.put,z1_,z2_,z3_,i64_w,i32_w];rfl)
 refine take_ (i:=1) (N:=some 6) (v:=?_) (a':=?_) (mB_ 13 167) rfl rfl (take_ofW HT_.out HW_.out (by kernel_rfl)) (fun _ _ _ h=>h) (Or.inl ⟨by rfl,?_⟩) hHeld ?_ ?_;rotate_left;(· rintro w' ⟨s0,s1,s2,s3⟩;go_simp;with_reducible rfl);rotate_left;(· simp only [Act.put,z1_,z2_,z3_,i64_w,i32_w];rfl)
 refine take_ (i:=3) (N:=some 8) (v:=?_) (a':=?_) (mB_ 13 175) rfl rfl (take_ofW HT_.out HW_.out (by kernel_rfl)) (fun _ _ _ h=>h) (Or.inl ⟨by rfl,?_⟩) hHeld ?_ ?_;rotate_left;(· rintro w' ⟨s0,s1,s2,s3⟩;go_simp;with_reducible rfl);rotate_left;(· simp only [Act.put,z1_,z2_,z3_,i64_w,i32_w];rfl)
 refine take_ (i:=6) (N:=some 11) (v:=?_) (a':=?_) (mB_ 13 239) rfl rfl (take_ofW HT_.out HW_.out (by kernel_rfl)) (fun _ _ _ h=>h) (Or.inl ⟨by rfl,?_⟩) hHeld ?_ ?_;rotate_left;(· rintro w' ⟨s0,s1,s2,s3⟩;go_simp;with_reducible rfl);rotate_left;(· simp only [Act.put,z1_,z2_,z3_,i64_w,i32_w];rfl)
 refine take_ (i:=8) (N:=some 13) (v:=?_) (a':=?_) (mB_ 13 495) rfl rfl (take_ofW HT_.out HW_.out (by kernel_rfl)) (fun _ _ _ h=>h) (Or.inl ⟨by rfl,?_⟩) hHeld ?_ ?_;rotate_left;(· rintro w' ⟨s0,s1,s2,s3⟩;go_simp;with_reducible rfl);rotate_left;(· simp only [Act.put,z1_,z2_,z3_,i64_w,i32_w];rfl)
 refine one_ (i:=4) (N:=some 9) (mB_ 13 511) rfl rfl (one_of HT_.out (by kernel_rfl)) (by decide) (fun K hK=>?_);refine goes_ Try.func85 (by kernel_rfl) rfl #[.int .i8 a0_1,.int .i8 a1_1] (by rfl) rfl rfl (by (try simp only [List.map_toArray,List.map_cons,List.map_nil]);first|done|rfl|(simp only [List.length_drop,List.length_take];rfl)) ?_
 with_reducible refine (cmp_Compare_int8.calls a0_1 a1_1 t188 _ A3.out).mono ?_
 rintro e w' ⟨rfl,⟨nd,rfl⟩⟩;refine ⟨_,rfl,?_⟩;refine hK.out _ _ ⟨(kC_ BK186.out 0).trans rfl,(kC_ BK186.out 1).trans rfl,(kC_ BK187.out 0).trans rfl,(kC_ BK187.out 1).trans rfl⟩ (fun hHeld=>?_);clear hK K;refine norm_ (a':=?_) ?_ ?_;rotate_left
 · show Act.put _ (some 9) _ = _;simp only [Act.put,z1_,z2_,z3_,i64_w,i32_w];rfl
 refine one_ (i:=9) (N:=some 14) (mB_ 13 1023) rfl rfl (one_of HT_.out (by kernel_rfl)) (by decide) (fun K hK=>?_);refine goes_ Try.func85 (by kernel_rfl) rfl #[.int .i8 a0_0,.int .i8 a1_0] (by rfl) rfl rfl (by (try simp only [List.map_toArray,List.map_cons,List.map_nil]);first|done|rfl|(simp only [List.length_drop,List.length_take];rfl)) ?_
 with_reducible refine (cmp_Compare_int8.calls a0_0 a1_0 t189 _ A4.out).mono ?_
 rintro e w' ⟨rfl,⟨nd,rfl⟩⟩;refine ⟨_,rfl,?_⟩;refine hK.out _ _ ⟨(kC_ BK186.out 0).trans rfl,(kC_ BK186.out 1).trans rfl,(kC_ BK187.out 0).trans rfl,(kC_ BK187.out 1).trans rfl⟩ (fun hHeld=>?_);clear hK K;refine norm_ (a':=?_) ?_ ?_;rotate_left
 · show Act.put _ (some 14) _ = _;simp only [Act.put,z1_,z2_,z3_,i64_w,i32_w];rfl
 refine one_ (i:=10) (N:=some 15) (mB_ 13 2047) rfl rfl (one_of HT_.out (by kernel_rfl)) (by decide) (fun K hK=>?_);refine Kd.R_lit_step (Kd.int .i64) _ 3 ?hg (N:=15) ?hd (xs:=([t188,t189] : List Int)) (inner:=[.int .i64 t188,.int .i64 t189]) (ok:=fun _=>True) (okp:=fun _=>True) ?hr ?hp (fun _ hk=>hk) trivial (Below.refl _ _) (Nat.le_refl _) (by simp) ?_;(case hd=>rfl);(case hg=>rfl);(case hr=>first|(go_simp;done)|(go_simp;rfl));(case hp=>exact (Reps.one (show Kd.M (Kd.int .i64) _ _ _ t188 [.int .i64 t188] from rfl) (Reps.one (show Kd.M (Kd.int .i64) _ _ _ t189 [.int .i64 t189] from rfl) (Reps.none _ _))));intro v191 w9 ho10 hb hg_ hnew_;clear hg_ hnew_
 (first|rw [← Ny190.out] at ho10|(simp only [Int.reduceToNat] at ho10;rw [← Ny190.out] at ho10))
 have HO192:=am_ (Kd.R_lower ho10 (below_size (by repeat (first|(with_reducible first|exact HB.out|apply below_alloc|apply pw_below_drewN|apply below_drew1|refine below_set ?_ GE186.out|refine below_set ?_ GE187.out)|exact HB.out))));replace BK186:=am_ (blk_below (g:=gb186) (o:=.cells #[.int .i8 a0_0,.int .i8 a0_1] 66 (0,0)) (by exact BK186.out) hb);replace BK187:=am_ (blk_below (g:=gb187) (o:=.cells #[.int .i8 a1_0,.int .i8 a1_1] 66 (0,0)) (by exact BK187.out) hb);replace HB:=am_ (below_step (by repeat (first|(with_reducible first|exact HB.out|apply below_alloc|apply pw_below_drewN|apply below_drew1|refine below_set ?_ GE186.out|refine below_set ?_ GE187.out)|exact HB.out)) hb);clear hb ho10;obtain ⟨Ao11,co11,eo11⟩:=Kd.R_slice HO192.out
 (first|subst eo11|(injection eo11 with f1_ f2_ f3_;have f4_:=f1_.symm;have f5_:=f3_.symm;clear f1_ f2_ f3_;subst f4_;subst f5_))
 refine hK.out _ _ ⟨(kC_ BK186.out 0).trans rfl,(kC_ BK186.out 1).trans rfl,(kC_ BK187.out 0).trans rfl,(kC_ BK187.out 1).trans rfl⟩ (fun hHeld=>?_);clear hK K;refine norm_ (a':=?_) ?_ ?_;rotate_left
 · show Act.put _ (some 15) _ = _;simp only [Act.put,z1_,z2_,z3_,i64_w,i32_w];rfl
 refine one_ (i:=11) (N:=some 16) (mB_ 13 4095) rfl rfl (one_of HT_.out (by kernel_rfl)) (by decide) (fun K hK=>?_);refine goes_ Try.func84 (by kernel_rfl) rfl #[.slice Ao11 y190.length co11] (by rfl) rfl rfl (by (try simp only [List.map_toArray,List.map_cons,List.map_nil]);first|done|rfl|(simp only [List.length_drop,List.length_take];rfl)) ?_
 with_reducible refine (cmp_Or_int.calls k _ _ y190 t193 _ ?side1 ?side2 A5.out).mono ?_
 (case side1=>repeat (first|exact (Kd.R_reads' HO192.out).2.2|(with_reducible refine Kd.C_alloc ?_ _)|(with_reducible refine Kd.C_drewN ?_ _)|(with_reducible refine Kd.C_drew ?_)))
 (case side2=>exact (Kd.R_reads' HO192.out).2.1)
 rintro e w' ⟨rfl,⟨nd,rfl⟩⟩;refine ⟨_,rfl,?_⟩;refine hK.out _ _ ⟨(kC_ BK186.out 0).trans rfl,(kC_ BK186.out 1).trans rfl,(kC_ BK187.out 0).trans rfl,(kC_ BK187.out 1).trans rfl⟩ (fun hHeld=>?_);clear hK K;refine norm_ (a':=?_) ?_ ?_;rotate_left
 · show Act.put _ (some 16) _ = _;simp only [Act.put,z1_,z2_,z3_,i64_w,i32_w];rfl
 refine pure_ (i:=12) (N:=some 4) (v:=?_) (a':=?_) (mB_ 13 8191) rfl rfl (any_of HT_.out (by kernel_rfl)) (fun _ _ _ h=>h) (Or.inl ⟨by rfl,?_⟩) ?_ ?_;rotate_left;(· intro w';go_simp;with_reducible rfl);rotate_left;(· simp only [Act.put,z1_,z2_,z3_,i64_w,i32_w];rfl)
 refine done_ (done_of HT_.out (by kernel_rfl)) ?_
 try go_wp2
 go_ret
 exact ⟨by first|rfl|(simp [errW_none,errW_some] <;> rfl)|(simp [*,errW_none,errW_some] <;> rfl),by repeat (first|(with_reducible first|exact HB.out|apply below_alloc|apply pw_below_drewN|apply below_drew1|refine below_set ?_ GE186.out|refine below_set ?_ GE187.out)|exact HB.out)⟩
set_option maxHeartbeats 8000000 in
set_option maxRecDepth 100000 in
theorem impl_Slab_first.calls (a0_0 : Int) (a0_1 : Int) (a0_2 : Int) (a0_3 : Int) (r1 : Int) (r2 : Int) (w : World) (h : impl_Slab_first.f a0_0 a0_1 a0_2 a0_3 = some (r1, r2)) :
  Calls Try.prog 64 #[.agg #[.int .i8 a0_0,.int .i8 a0_1,.int .i8 a0_2,.int .i8 a0_3]] w fun e w'=>e = .returned (.agg #[.int .i8 r1,.int .i8 r2]) ∧ Below w.heap.size w w':=by
 have hu31:=Try.underlying31;have hu66:=Try.underlying66;have HB:=am_ (Below.refl w.heap.size w);have H : (some (a0_0,a0_1)) = some (r1,r2):=h;clear h;simp only [Option.some.injEq,Prod.mk.injEq] at H;obtain ⟨rfl,rfl⟩:=H
 go_enter Try.func64,Try.ntmps64
 go_wp2_with (first|((with_reducible refine gate_dst (N:=1) rfl ?_);refine box_event ?hg (N:=1) ?hd (cs:=#[.int .i8 a0_0,.int .i8 a0_1,.int .i8 a0_2,.int .i8 a0_3]) (t:=31) ?hr ?_;(case hd=>rfl);(case hg=>rfl);(case hr=>first|(go_simp;done)|(go_simp;rfl));intro gb194 hg w2 hbox hb;have n0_:=am_ (below_step (by exact HB.out) hb);have n1_:=am_ (hbox);have n2_:=am_ ((by rw [hg];exact (below_size (by exact HB.out)) : w.heap.size≤gb194));have n3_:=n2_;clear HB;have HB:=n0_;have BK194:=n1_;have GW194:=n2_;have GE194:=n3_;clear n0_ n1_ n2_ n3_;clear hb hbox hg)|((with_reducible refine gate_dst (N:=2) rfl ?_);refine box_event ?hg (N:=2) ?hd (cs:=#[.int .i8 0,.int .i8 0]) (t:=66) ?hr ?_;(case hd=>rfl);(case hg=>rfl);(case hr=>first|(go_simp;done)|(go_simp;rfl));intro gb195 hg w3 hbox hb;have n0_:=am_ (blk_below (g:=gb194) (o:=.cells #[.int .i8 a0_0,.int .i8 a0_1,.int .i8 a0_2,.int .i8 a0_3] 31 (0,0)) (by exact BK194.out) hb);have n1_:=am_ (below_step (by exact HB.out) hb);have n2_:=am_ (hbox);have n3_:=am_ ((by rw [hg];exact (below_size (by exact HB.out)) : w.heap.size≤gb195));have n4_:=n3_;have n5_:=am_ ((by rw [hg];exact nL_ (kL_ (g:=gb194) (o:=.cells #[.int .i8 a0_0,.int .i8 a0_1,.int .i8 a0_2,.int .i8 a0_3] 31 (0,0)) (by exact BK194.out)) : gb194 ≠ gb195));have n6_:=am_ ((by rw [hg];exact nG_ (kL_ (g:=gb194) (o:=.cells #[.int .i8 a0_0,.int .i8 a0_1,.int .i8 a0_2,.int .i8 a0_3] 31 (0,0)) (by exact BK194.out)) : gb195 ≠ gb194));clear BK194;clear HB;have BK194:=n0_;have HB:=n1_;have BK195:=n2_;have GW195:=n3_;have GE195:=n4_;have NB194_195:=n5_;have NB195_194:=n6_;clear n0_ n1_ n2_ n3_ n4_ n5_ n6_;clear hb hbox hg;have hnb4:=NB194_195.out;have hnc4:=NB195_194.out;have hcz5_0 : w3.cell? ⟨gb194,0,none⟩ = some (.int .i8 a0_0):=(kC_ BK194.out 0).trans rfl;have hcz5_1 : w3.cell? ⟨gb194,1,none⟩ = some (.int .i8 a0_1):=(kC_ BK194.out 1).trans rfl;have hcz5_2 : w3.cell? ⟨gb194,2,none⟩ = some (.int .i8 a0_2):=(kC_ BK194.out 2).trans rfl;have hcz5_3 : w3.cell? ⟨gb194,3,none⟩ = some (.int .i8 a0_3):=(kC_ BK194.out 3).trans rfl;have hfz5_0:=kF_ BK194.out 0;have hfz5_1:=kF_ BK194.out 1;have hfz5_2:=kF_ BK194.out 2;have hfz5_3:=kF_ BK194.out 3;have hcz6_0 : w3.cell? ⟨gb195,0,none⟩ = some (.int .i8 0):=(kC_ BK195.out 0).trans rfl;have hcz6_1 : w3.cell? ⟨gb195,1,none⟩ = some (.int .i8 0):=(kC_ BK195.out 1).trans rfl;have hfz6_0:=kF_ BK195.out 0;have hfz6_1:=kF_ BK195.out 1))
 refine bodyPost_ret (results_cell_row rfl _ _ gb195 66 #[.int .i8 a0_0,.int .i8 a0_1] (0,0) _ rfl (by (with_reducible repeat (first|apply kN_|apply kD_|apply kA_));refine blk_put (cs:=#[.int .i8 a0_0,.int .i8 0]) ?_ 1 _ rfl;(with_reducible repeat (first|apply kN_|apply kD_|apply kA_));refine blk_put (cs:=#[.int .i8 0,.int .i8 0]) ?_ 0 _ rfl;(with_reducible repeat (first|apply kN_|apply kD_|apply kA_));exact BK195.out) Try.underlying66 rfl (by kernel_rfl)) rfl ?_;exact ⟨by first|rfl|(simp [errW_none,errW_some] <;> rfl)|(simp [*,errW_none,errW_some] <;> rfl),by repeat (first|(with_reducible first|exact HB.out|apply below_alloc|apply pw_below_drewN|apply below_drew1|refine below_set ?_ GE194.out|refine below_set ?_ GE195.out)|exact HB.out)⟩
set_option maxHeartbeats 8000000 in
set_option maxRecDepth 100000 in
theorem impl_compareSlabs.calls (k : Nat) (a0_0 : Int) (a0_1 : Int) (a0_2 : Int) (a0_3 : Int) (a1_0 : Int) (a1_1 : Int) (a1_2 : Int) (a1_3 : Int) (r : Int) (w : World) (h : impl_compareSlabs.f k a0_0 a0_1 a0_2 a0_3 a1_0 a1_1 a1_2 a1_3 = some r) :
  Calls Try.prog 48 #[.agg #[.int .i8 a0_0,.int .i8 a0_1,.int .i8 a0_2,.int .i8 a0_3],.agg #[.int .i8 a1_0,.int .i8 a1_1,.int .i8 a1_2,.int .i8 a1_3]] w fun e w'=>e = .returned (.int .i64 r) ∧ Below w.heap.size w w':=by
 have hu31:=Try.underlying31;have HB:=am_ (Below.refl w.heap.size w);have H : ((impl_Slab_first.f a0_0 a0_1 a0_2 a0_3).bind fun bt198=>((impl_Slab_first.f a1_0 a1_1 a1_2 a1_3).bind fun bt200=>((impl_compareCells.f k bt198.1 bt198.2 bt200.1 bt200.2).bind fun t202=>(some t202)))) = some r:=h;clear h;replace H:=Option.bind_eq_some_iff.mp H;obtain ⟨⟨t198,t199⟩,A30,H⟩:=H;replace H : ((impl_Slab_first.f a1_0 a1_1 a1_2 a1_3).bind fun bt200=>((impl_compareCells.f k t198 t199 bt200.1 bt200.2).bind fun t202=>(some t202))) = some r:=H;have A3:=am_ A30;clear A30;replace H:=Option.bind_eq_some_iff.mp H;obtain ⟨⟨t200,t201⟩,A40,H⟩:=H;replace H : ((impl_compareCells.f k t198 t199 t200 t201).bind fun t202=>(some t202)) = some r:=H;have A4:=am_ A40;clear A40;replace H:=Option.bind_eq_some_iff.mp H;obtain ⟨t202,A50,H⟩:=H;replace H : (some t202) = some r:=H;have A5:=am_ A50;clear A50;obtain rfl:=Option.some.inj H
 go_enter Try.func48,Try.ntmps48
 try go_wp2_with (first|((with_reducible refine gate_dst (N:=2) rfl ?_);refine box_event ?hg (N:=2) ?hd (cs:=#[.int .i8 a0_0,.int .i8 a0_1,.int .i8 a0_2,.int .i8 a0_3]) (t:=31) ?hr ?_;(case hd=>rfl);(case hg=>rfl);(case hr=>first|(go_simp;done)|(go_simp;rfl));intro gb196 hg w6 hbox hb;have n0_:=am_ (below_step (by exact HB.out) hb);have n1_:=am_ (hbox);have n2_:=am_ ((by rw [hg];exact (below_size (by exact HB.out)) : w.heap.size≤gb196));have n3_:=n2_;clear HB;have HB:=n0_;have BK196:=n1_;have GW196:=n2_;have GE196:=n3_;clear n0_ n1_ n2_ n3_;clear hb hbox hg)|((with_reducible refine gate_dst (N:=3) rfl ?_);refine box_event ?hg (N:=3) ?hd (cs:=#[.int .i8 a1_0,.int .i8 a1_1,.int .i8 a1_2,.int .i8 a1_3]) (t:=31) ?hr ?_;(case hd=>rfl);(case hg=>rfl);(case hr=>first|(go_simp;done)|(go_simp;rfl));intro gb197 hg w7 hbox hb;have n0_:=am_ (blk_below (g:=gb196) (o:=.cells #[.int .i8 a0_0,.int .i8 a0_1,.int .i8 a0_2,.int .i8 a0_3] 31 (0,0)) (by exact BK196.out) hb);have n1_:=am_ (below_step (by exact HB.out) hb);have n2_:=am_ (hbox);have n3_:=am_ ((by rw [hg];exact (below_size (by exact HB.out)) : w.heap.size≤gb197));have n4_:=n3_;have n5_:=am_ ((by rw [hg];exact nL_ (kL_ (g:=gb196) (o:=.cells #[.int .i8 a0_0,.int .i8 a0_1,.int .i8 a0_2,.int .i8 a0_3] 31 (0,0)) (by exact BK196.out)) : gb196 ≠ gb197));have n6_:=am_ ((by rw [hg];exact nG_ (kL_ (g:=gb196) (o:=.cells #[.int .i8 a0_0,.int .i8 a0_1,.int .i8 a0_2,.int .i8 a0_3] 31 (0,0)) (by exact BK196.out)) : gb197 ≠ gb196));clear BK196;clear HB;have BK196:=n0_;have HB:=n1_;have BK197:=n2_;have GW197:=n3_;have GE197:=n4_;have NB196_197:=n5_;have NB197_196:=n6_;clear n0_ n1_ n2_ n3_ n4_ n5_ n6_;clear hb hbox hg))
 replace BK196:=am_ (kD_ BK196.out);replace BK197:=am_ (kD_ BK197.out);replace HB:=am_ (below_drew1 HB.out);refine start_ (n:=6) (S:=fun w'=>w'.cell? ⟨gb196,0,none⟩ = some (.int .i8 a0_0) ∧ w'.cell? ⟨gb196,1,none⟩ = some (.int .i8 a0_1) ∧ w'.cell? ⟨gb196,2,none⟩ = some (.int .i8 a0_2) ∧ w'.cell? ⟨gb196,3,none⟩ = some (.int .i8 a0_3) ∧ w'.cell? ⟨gb197,0,none⟩ = some (.int .i8 a1_0) ∧ w'.cell? ⟨gb197,1,none⟩ = some (.int .i8 a1_1) ∧ w'.cell? ⟨gb197,2,none⟩ = some (.int .i8 a1_2) ∧ w'.cell? ⟨gb197,3,none⟩ = some (.int .i8 a1_3)) (ds:=[]) (mB_ 6 0) (by kernel_rfl) rfl rfl ⟨(kC_ BK196.out 0).trans rfl,(kC_ BK196.out 1).trans rfl,(kC_ BK196.out 2).trans rfl,(kC_ BK196.out 3).trans rfl,(kC_ BK197.out 0).trans rfl,(kC_ BK197.out 1).trans rfl,(kC_ BK197.out 2).trans rfl,(kC_ BK197.out 3).trans rfl⟩ (fun hHeld=>?_);generalize w7.drew = w8 at BK196 BK197 HB hHeld ⊢;refine take_ (i:=0) (N:=some 5) (v:=?_) (a':=?_) (mB_ 6 1) rfl rfl (by kernel_rfl) (fun _ _ _ h=>h) (Or.inl ⟨by rfl,?_⟩) hHeld ?_ ?_;rotate_left;(· rintro w' ⟨s0,s1,s2,s3,s4,s5,s6,s7⟩;go_simp;with_reducible rfl);rotate_left;(· simp only [Act.put,z1_,z2_,z3_,i64_w,i32_w];rfl)
 refine take_ (i:=2) (N:=some 7) (v:=?_) (a':=?_) (mB_ 6 5) rfl rfl (by kernel_rfl) (fun _ _ _ h=>h) (Or.inl ⟨by rfl,?_⟩) hHeld ?_ ?_;rotate_left;(· rintro w' ⟨s0,s1,s2,s3,s4,s5,s6,s7⟩;go_simp;with_reducible rfl);rotate_left;(· simp only [Act.put,z1_,z2_,z3_,i64_w,i32_w];rfl)
 refine one_ (i:=1) (N:=some 6) (mB_ 6 7) rfl rfl (by kernel_rfl) (by decide) (fun K hK=>?_);refine goes_ Try.func64 (by kernel_rfl) rfl #[.agg #[.int .i8 a0_0,.int .i8 a0_1,.int .i8 a0_2,.int .i8 a0_3]] (by rfl) rfl rfl (by (try simp only [List.map_toArray,List.map_cons,List.map_nil]);first|done|rfl|(simp only [List.length_drop,List.length_take];rfl)) ?_
 with_reducible refine (impl_Slab_first.calls a0_0 a0_1 a0_2 a0_3 t198 t199 _ A3.out).mono ?_
 rintro e w9 ⟨rfl,hb⟩;refine ⟨_,rfl,?_⟩;replace BK196:=am_ (blk_below (g:=gb196) (o:=.cells #[.int .i8 a0_0,.int .i8 a0_1,.int .i8 a0_2,.int .i8 a0_3] 31 (0,0)) (by exact BK196.out) hb);replace BK197:=am_ (blk_below (g:=gb197) (o:=.cells #[.int .i8 a1_0,.int .i8 a1_1,.int .i8 a1_2,.int .i8 a1_3] 31 (0,0)) (by exact BK197.out) hb);replace HB:=am_ (below_step (by exact HB.out) hb);(try clear hb hb2 hk hi);refine hK.out _ _ ⟨(kC_ BK196.out 0).trans rfl,(kC_ BK196.out 1).trans rfl,(kC_ BK196.out 2).trans rfl,(kC_ BK196.out 3).trans rfl,(kC_ BK197.out 0).trans rfl,(kC_ BK197.out 1).trans rfl,(kC_ BK197.out 2).trans rfl,(kC_ BK197.out 3).trans rfl⟩ (fun hHeld=>?_);clear hK K;refine norm_ (a':=?_) ?_ ?_;rotate_left
 · show Act.put _ (some 6) _ = _;simp only [Act.put,z1_,z2_,z3_,i64_w,i32_w];rfl
 refine one_ (i:=3) (N:=some 8) (mB_ 6 15) rfl rfl (by kernel_rfl) (by decide) (fun K hK=>?_);refine goes_ Try.func64 (by kernel_rfl) rfl #[.agg #[.int .i8 a1_0,.int .i8 a1_1,.int .i8 a1_2,.int .i8 a1_3]] (by rfl) rfl rfl (by (try simp only [List.map_toArray,List.map_cons,List.map_nil]);first|done|rfl|(simp only [List.length_drop,List.length_take];rfl)) ?_
 with_reducible refine (impl_Slab_first.calls a1_0 a1_1 a1_2 a1_3 t200 t201 _ A4.out).mono ?_
 rintro e w10 ⟨rfl,hb⟩;refine ⟨_,rfl,?_⟩;replace BK196:=am_ (blk_below (g:=gb196) (o:=.cells #[.int .i8 a0_0,.int .i8 a0_1,.int .i8 a0_2,.int .i8 a0_3] 31 (0,0)) (by exact BK196.out) hb);replace BK197:=am_ (blk_below (g:=gb197) (o:=.cells #[.int .i8 a1_0,.int .i8 a1_1,.int .i8 a1_2,.int .i8 a1_3] 31 (0,0)) (by exact BK197.out) hb);replace HB:=am_ (below_step (by exact HB.out) hb);(try clear hb hb2 hk hi);refine hK.out _ _ ⟨(kC_ BK196.out 0).trans rfl,(kC_ BK196.out 1).trans rfl,(kC_ BK196.out 2).trans rfl,(kC_ BK196.out 3).trans rfl,(kC_ BK197.out 0).trans rfl,(kC_ BK197.out 1).trans rfl,(kC_ BK197.out 2).trans rfl,(kC_ BK197.out 3).trans rfl⟩ (fun hHeld=>?_);clear hK K;refine norm_ (a':=?_) ?_ ?_;rotate_left
 · show Act.put _ (some 8) _ = _;simp only [Act.put,z1_,z2_,z3_,i64_w,i32_w];rfl
 refine one_ (i:=4) (N:=some 9) (mB_ 6 31) rfl rfl (by kernel_rfl) (by decide) (fun K hK=>?_);refine goes_ Try.func63 (by kernel_rfl) rfl #[.agg #[.int .i8 t198,.int .i8 t199],.agg #[.int .i8 t200,.int .i8 t201]] (by rfl) rfl rfl (by (try simp only [List.map_toArray,List.map_cons,List.map_nil]);first|done|rfl|(simp only [List.length_drop,List.length_take];rfl)) ?_
 with_reducible refine (impl_compareCells.calls k t198 t199 t200 t201 t202 _ A5.out).mono ?_
 rintro e w11 ⟨rfl,hb⟩;refine ⟨_,rfl,?_⟩;replace BK196:=am_ (blk_below (g:=gb196) (o:=.cells #[.int .i8 a0_0,.int .i8 a0_1,.int .i8 a0_2,.int .i8 a0_3] 31 (0,0)) (by exact BK196.out) hb);replace BK197:=am_ (blk_below (g:=gb197) (o:=.cells #[.int .i8 a1_0,.int .i8 a1_1,.int .i8 a1_2,.int .i8 a1_3] 31 (0,0)) (by exact BK197.out) hb);replace HB:=am_ (below_step (by exact HB.out) hb);(try clear hb hb2 hk hi);refine hK.out _ _ ⟨(kC_ BK196.out 0).trans rfl,(kC_ BK196.out 1).trans rfl,(kC_ BK196.out 2).trans rfl,(kC_ BK196.out 3).trans rfl,(kC_ BK197.out 0).trans rfl,(kC_ BK197.out 1).trans rfl,(kC_ BK197.out 2).trans rfl,(kC_ BK197.out 3).trans rfl⟩ (fun hHeld=>?_);clear hK K;refine norm_ (a':=?_) ?_ ?_;rotate_left
 · show Act.put _ (some 9) _ = _;simp only [Act.put,z1_,z2_,z3_,i64_w,i32_w];rfl
 refine pure_ (i:=5) (N:=some 4) (v:=?_) (a':=?_) (mB_ 6 63) rfl rfl (by kernel_rfl) (fun _ _ _ h=>h) (Or.inl ⟨by rfl,?_⟩) ?_ ?_;rotate_left;(· intro w';go_simp;with_reducible rfl);rotate_left;(· simp only [Act.put,z1_,z2_,z3_,i64_w,i32_w];rfl)
 refine done_ (by kernel_rfl) ?_
 try go_wp2
 go_ret
 exact ⟨by first|rfl|(simp [errW_none,errW_some] <;> rfl)|(simp [*,errW_none,errW_some] <;> rfl),by repeat (first|(with_reducible first|exact HB.out|apply below_alloc|apply pw_below_drewN|apply below_drew1|refine below_set ?_ GE196.out|refine below_set ?_ GE197.out)|exact HB.out)⟩
end Srt
theorem slices_SortFunc_impl_Slab_at_impl_compareSlabs.or2 (a b : Int) : cmp_Or_int.f 9 [a, b] = some (if a = 0 then b else a) := by
 unfold cmp_Or_int.f
 simp only [cmp_Or_int.l0,List.length_cons,List.length_nil,rd]
 by_cases h : a = 0
 ·
  subst h
  by_cases h2 : b = 0
  · subst h2;first|decide|simp [wrap64]
  · simp [h2,wrap64]
 · simp [h]
theorem slices_SortFunc_impl_Slab_at_impl_compareSlabs.cmp8 (a b : Int) : cmp_Compare_int8.f a b = some (cmpZ a b) := by
 have h : ∀ x,cmp_isNaN_int8.f x = some false:=fun x=>by unfold cmp_isNaN_int8.f;simp
 unfold cmp_Compare_int8.f cmpZ
 rw [h,h];simp only [Option.bind_some,Bool.false_eq_true,if_false]
 split
 · rfl
 · split <;> rfl
def slices_SortFunc_impl_Slab_at_impl_compareSlabs.cf (x y : S31) : Int := cmpZ2 x.f1 y.f1 x.f0 y.f0
theorem slices_SortFunc_impl_Slab_at_impl_compareSlabs.cf_some (x y : S31) : impl_compareSlabs.f 9 x.f0 x.f1 x.f2 x.f3 y.f0 y.f1 y.f2 y.f3 = some (slices_SortFunc_impl_Slab_at_impl_compareSlabs.cf x y) := by
 simp only [impl_compareCells.f,impl_Slab_first.f,impl_compareSlabs.f,Option.bind_some,slices_SortFunc_impl_Slab_at_impl_compareSlabs.cmp8,slices_SortFunc_impl_Slab_at_impl_compareSlabs.or2]
 rfl
def slices_SortFunc_impl_Slab_at_impl_compareSlabs.enc (x : S31) : List Value := [.int .i8 x.f0, .int .i8 x.f1, .int .i8 x.f2, .int .i8 x.f3]
instance : Inhabited S31 := ⟨⟨0, 0, 0, 0⟩⟩
section
open Go.Shelf
def slices_SortFunc_impl_Slab_at_impl_compareSlabs_lays_ren : Go.Shelf.Ren := ⟨fun | 6 => 47 | 15 => 60 | 14 => 62 | 28 => 74 | 29 => 75 | 20 => 76 | 21 => 77 | 22 => 78 | 23 => 79 | 24 => 80 | 25 => 81 | 26 => 82 | 27 => 83 | 46 => 92 | 47 => 87 | 48 => 88 | 49 => 93 | 50 => 94 | 57 => 97 | n => n, fun | 22 => 27 | 24 => 31 | 25 => 83 | 3 => 3 | 39 => 90 | 0 => 0 | 53 => 104 | 55 => 106 | 4 => 4 | 46 => 97 | 45 => 96 | 50 => 101 | 5 => 5 | 9 => 9 | 66 => 114 | 70 => 118 | 76 => 124 | 77 => 125 | n => n, fun | n => n⟩
theorem slices_SortFunc_impl_Slab_at_impl_compareSlabs_lays : Go.Proofs.SlLaysF0.n6 Try.prog slices_SortFunc_impl_Slab_at_impl_compareSlabs_lays_ren := {
 mixed:=by kernel_rfl
 f6:=⟨Try.f47.name,by decide,Try.func47.trans (congrArg some (by kernel_rfl))⟩
 f14:=⟨Try.f62.name,by decide,Try.func62.trans (congrArg some (by kernel_rfl))⟩
 f15:=Try.func60.trans (congrArg some (by kernel_rfl))
 f20:=⟨Try.f76.name,by decide,Try.func76.trans (congrArg some (by kernel_rfl))⟩
 f21:=⟨Try.f77.name,by decide,Try.func77.trans (congrArg some (by kernel_rfl))⟩
 f22:=⟨Try.f78.name,by decide,Try.func78.trans (congrArg some (by kernel_rfl))⟩
 f23:=⟨Try.f79.name,by decide,Try.func79.trans (congrArg some (by kernel_rfl))⟩
 f24:=⟨Try.f80.name,by decide,Try.func80.trans (congrArg some (by kernel_rfl))⟩
 f25:=⟨Try.f81.name,by decide,Try.func81.trans (congrArg some (by kernel_rfl))⟩
 f26:=⟨Try.f82.name,by decide,Try.func82.trans (congrArg some (by kernel_rfl))⟩
 f27:=⟨Try.f83.name,by decide,Try.func83.trans (congrArg some (by kernel_rfl))⟩
 f28:=Try.func74.trans (congrArg some (by kernel_rfl))
 f29:=Try.func75.trans (congrArg some (by kernel_rfl))
 f46:=⟨Try.f92.name,by decide,Try.func92.trans (congrArg some (by kernel_rfl))⟩
 f47:=Try.func87.trans (congrArg some (by kernel_rfl))
 f48:=Try.func88.trans (congrArg some (by kernel_rfl))
 f49:=⟨Try.f93.name,by decide,Try.func93.trans (congrArg some (by kernel_rfl))⟩
 f50:=⟨Try.f94.name,by decide,Try.func94.trans (congrArg some (by kernel_rfl))⟩
 f57:=⟨Try.f97.name,by decide,Try.func97.trans (congrArg some (by kernel_rfl))⟩
 t0:=Try.underlying0
 a0:=Try.isAgg0
 z0:=Try.sizeOf0
 v0:=Try.zeroValue0
 t3:=Try.underlying3
 a3:=Try.isAgg3
 z3:=Try.sizeOf3
 v3:=Try.zeroValue3
 t4:=Try.underlying4
 a4:=Try.isAgg4
 z4:=Try.sizeOf4
 v4:=Try.zeroValue4
 t5:=Try.underlying5
 a5:=Try.isAgg5
 z5:=Try.sizeOf5
 v5:=Try.zeroValue5
 t9:=Try.underlying9
 a9:=Try.isAgg9
 z9:=Try.sizeOf9
 v9:=Try.zeroValue9
 t22:=Try.underlying27
 a22:=Try.isAgg27
 z22:=Try.sizeOf27
 v22:=Try.zeroValue27
 t25:=Try.underlying83
 a25:=Try.isAgg83
 z25:=Try.sizeOf83
 v25:=Try.zeroValue83
 t39:=Try.underlying90
 a39:=Try.isAgg90
 z39:=Try.sizeOf90
 v39:=Try.zeroValue90
 t45:=Try.underlying96
 a45:=Try.isAgg96
 z45:=Try.sizeOf96
 v45:=Try.zeroValue96
 t46:=Try.underlying97
 a46:=Try.isAgg97
 z46:=Try.sizeOf97
 v46:=Try.zeroValue97
 t50:=Try.underlying101
 a50:=Try.isAgg101
 z50:=Try.sizeOf101
 v50:=Try.zeroValue101
 t53:=Try.underlying104
 a53:=Try.isAgg104
 z53:=Try.sizeOf104
 v53:=Try.zeroValue104
 t55:=Try.underlying106
 a55:=Try.isAgg106
 z55:=Try.sizeOf106
 v55:=Try.zeroValue106
 t66:=Try.underlying114
 a66:=Try.isAgg114
 z66:=Try.sizeOf114
 v66:=Try.zeroValue114
 t70:=Try.underlying118
 a70:=Try.isAgg118
 z70:=Try.sizeOf118
 v70:=Try.zeroValue118
 t76:=Try.underlying124
 a76:=Try.isAgg124
 z76:=Try.sizeOf124
 v76:=Try.zeroValue124
 t77:=Try.underlying125
 a77:=Try.isAgg125
 z77:=Try.sizeOf125
 v77:=Try.zeroValue125 }
end
def slices_SortFunc_impl_Slab_at_impl_compareSlabs.f (l0 : List S31) : Option (List S31) := if l0.length < 4611686018427387904 then some (sort2 (fun x : S31 => x.f1) (fun x : S31 => x.f0) l0) else none
theorem slices_SortFunc_impl_Slab_at_impl_compareSlabs.cmpLays (blk off size : Nat) (w : World) : Go.Proofs.CmpLays Try.prog 48 #[] slices_SortFunc_impl_Slab_at_impl_compareSlabs.enc 4 slices_SortFunc_impl_Slab_at_impl_compareSlabs.cf blk off size w := fun m os dk _ x y =>
 (Srt.impl_compareSlabs.calls 9 x.f0 x.f1 x.f2 x.f3 y.f0 y.f1 y.f2 y.f3 _ _ (slices_SortFunc_impl_Slab_at_impl_compareSlabs.cf_some x y)).mono fun _ _ ⟨he,hb⟩=>⟨he,Srt.grow_of hb⟩
theorem slices_SortFunc_impl_Slab_at_impl_compareSlabs.enc_of (w : World) (base : Nat) (ok : Nat → Prop) (x : S31) (cs : List Value) (h : k31.M w base ok x cs) : cs = slices_SortFunc_impl_Slab_at_impl_compareSlabs.enc x := k31_openM h
theorem slices_SortFunc_impl_Slab_at_impl_compareSlabs.of_enc (w : World) (base : Nat) (ok : Nat → Prop) (x : S31) : k31.M w base ok x (slices_SortFunc_impl_Slab_at_impl_compareSlabs.enc x) := k31_mkM w base ok x
set_option maxHeartbeats 8000000 in
set_option maxRecDepth 100000 in
theorem slices_SortFunc_impl_Slab_at_impl_compareSlabs.calls (P0_ : Nat → Prop) (u9000_ : Value) (l0 : List S31) (r0 : List S31) (w0 w : World) (hB : Below w0.heap.size w0 w) (ho0 : Kd.R k31 31 w w0.heap.size P0_ u9000_ l0) (h : slices_SortFunc_impl_Slab_at_impl_compareSlabs.f l0 = some r0) :
  Calls Try.prog 47 #[u9000_,.func (.func 48) #[] #[]] w fun e w'=>e = .returned (.tuple #[]) ∧ Kd.R k31 31 w' w0.heap.size (fun k_=>(P0_ k_ ∨ w.heap.size≤k_)) u9000_ r0 ∧ Below w0.heap.size w0 w' ∧ Kept w w' (fun k_=>P0_ k_):=by
 unfold slices_SortFunc_impl_Slab_at_impl_compareSlabs.f at h
 by_cases hs : l0.length < 4611686018427387904
 ·
  rw [if_pos hs] at h;obtain rfl:=Option.some.inj h;clear h;have hR:=ho0;obtain ⟨hok,inner,⟨hlen,hr⟩,hreps⟩:=ho0
  rcases hr with ⟨hv,h0⟩|⟨g,cap,cur,hv,hb,hh,hn,hcap,hsz,htk⟩
  ·
   subst hv;obtain rfl : l0 = []:=List.eq_nil_of_length_eq_zero h0;have hp : sort2 (fun x : S31=>x.f1) (fun x : S31=>x.f0) [] = []:=List.eq_nil_of_length_eq_zero (sort2_perm _ _ _).length_eq;rw [hp];have hcon:=Go.Proofs.AnyF.slices_SortFunc_none slices_SortFunc_impl_Slab_at_impl_compareSlabs_lays none 0 (.func (.func 48) #[] #[]) w;refine Calls.mono (show Calls Try.prog 47 #[.slice none 0 0,.func (.func 48) #[] #[]] w _ from hcon) ?_;rintro e w' ⟨rfl,rfl⟩;exact ⟨rfl,Kd.R_nil _ _ _ _ _,hB,Kept.refl _ _⟩
  ·
   subst hv;obtain ⟨hH,hg,-,-,-⟩:=holds_row (enc:=slices_SortFunc_impl_Slab_at_impl_compareSlabs.enc) slices_SortFunc_impl_Slab_at_impl_compareSlabs.enc_of (fun _=>rfl) hR;have eg:=enters_of Try.func48 (by kernel_rfl) rfl;have hcon:=Go.Proofs.AnyQ.slices_SortFunc_eq slices_SortFunc_impl_Slab_at_impl_compareSlabs_lays 4 Try.isAgg31 Try.sizeOf31 slices_SortFunc_impl_Slab_at_impl_compareSlabs.enc (fun _=>rfl) (fun x v hv=>by simp [slices_SortFunc_impl_Slab_at_impl_compareSlabs.enc] at hv;rcases hv with rfl|rfl|rfl|rfl <;> rfl) slices_SortFunc_impl_Slab_at_impl_compareSlabs.cf (swo2 _ _) 48 #[] g 0 cap l0.toArray w eg (slices_SortFunc_impl_Slab_at_impl_compareSlabs.cmpLays _ _ _ _) hH hg (by simpa using hs);refine Calls.mono (show Calls Try.prog 47 #[.slice (some ⟨g,0,none⟩) l0.length cap,.func (.func 48) #[] #[]] w _ from hcon) ?_;rintro e w' ⟨rfl,n,os,rfl⟩;exact ⟨rfl,sorted_row (enc:=slices_SortFunc_impl_Slab_at_impl_compareSlabs.enc) slices_SortFunc_impl_Slab_at_impl_compareSlabs.of_enc (fun _=>rfl) hR hB (sort2_size _ _ _)⟩
 ·
  rw [if_neg hs] at h
  cases h
end Go.Proofs.Ytgpfjmkmopjfbaa.Q
