-- Trimmed by a program.
import Derived.Test.YtljfjljeabcfgaaXQ0
namespace Go.Proofs.Ytljfjljeabcfgaa.Q
open RowKit YtljfjljeabcfgaaW.PrintWords YtljfjljeabcfgaaW.PrintLast YtljfjljeabcfgaaW.PrintMore
attribute [local go_sem] max2_int min2_int max_two min_two max_three min_three max_four min_four
set_option linter.unusedVariables false
set_option linter.unusedSimpArgs false
def impl_Slab_meets.f (a0_0 : Int) (a0_1 : Int) (a0_2 : Int) (a0_3 : Int) (a1_0 : Int) (a1_1 : Int) (a1_2 : Int) (a1_3 : Int) : Option (Bool) := if (wrap64 (a0_0)) < (wrap64 ((wrap64 (a1_0)) + (wrap64 (a1_2)))) then (if (wrap64 (a1_0)) < (wrap64 ((wrap64 (a0_0)) + (wrap64 (a0_2)))) then (if (wrap64 (a0_1)) < (wrap64 ((wrap64 (a1_1)) + (wrap64 (a1_3)))) then (some (decide ((wrap64 (a1_1)) < (wrap64 ((wrap64 (a0_1)) + (wrap64 (a0_3))))))) else (some false)) else (some false)) else (some false)
set_option maxHeartbeats 8000000 in
set_option maxRecDepth 100000 in
theorem impl_Slab_meets.calls (a0_0 : Int) (a0_1 : Int) (a0_2 : Int) (a0_3 : Int) (a1_0 : Int) (a1_1 : Int) (a1_2 : Int) (a1_3 : Int) (r : Bool) (w : World) (h : impl_Slab_meets.f a0_0 a0_1 a0_2 a0_3 a1_0 a1_1 a1_2 a1_3 = some r) :
  Calls Try.prog 31 #[.agg #[.int .i8 a0_0,.int .i8 a0_1,.int .i8 a0_2,.int .i8 a0_3],.agg #[.int .i8 a1_0,.int .i8 a1_1,.int .i8 a1_2,.int .i8 a1_3]] w fun e w'=>e = .returned (.bool r) ∧ Below w.heap.size w w':=by
 have hu50:=Try.underlying50;have HB:=am_ (Below.refl w.heap.size w);have H : (if (wrap64 (a0_0)) < (wrap64 ((wrap64 (a1_0)) + (wrap64 (a1_2)))) then (if (wrap64 (a1_0)) < (wrap64 ((wrap64 (a0_0)) + (wrap64 (a0_2)))) then (if (wrap64 (a0_1)) < (wrap64 ((wrap64 (a1_1)) + (wrap64 (a1_3)))) then (some (decide ((wrap64 (a1_1)) < (wrap64 ((wrap64 (a0_1)) + (wrap64 (a0_3))))))) else (some false)) else (some false)) else (some false)) = some r:=h;clear h
 by_cases c3 : (wrap64 (a0_0)) < (wrap64 ((wrap64 (a1_0)) + (wrap64 (a1_2))))
 ·
  rw [if_pos c3] at H;have c3b0 : decide ((wrap64 (a0_0)) < (wrap64 ((wrap64 (a1_0)) + (wrap64 (a1_2))))) = true:=decide_eq_true c3;clear c3
  by_cases c4 : (wrap64 (a1_0)) < (wrap64 ((wrap64 (a0_0)) + (wrap64 (a0_2))))
  ·
   rw [if_pos c4] at H;have c4b0 : decide ((wrap64 (a1_0)) < (wrap64 ((wrap64 (a0_0)) + (wrap64 (a0_2))))) = true:=decide_eq_true c4;clear c4
   by_cases c5 : (wrap64 (a0_1)) < (wrap64 ((wrap64 (a1_1)) + (wrap64 (a1_3))))
   ·
    rw [if_pos c5] at H;have c5b0 : decide ((wrap64 (a0_1)) < (wrap64 ((wrap64 (a1_1)) + (wrap64 (a1_3))))) = true:=decide_eq_true c5;clear c5;obtain rfl:=Option.some.inj H
    go_enter Try.func31,Try.ntmps31
    go_wp2_with (first|((with_reducible refine gate_dst (N:=2) rfl ?_);refine box_event ?hg (N:=2) ?hd (cs:=#[.int .i8 a0_0,.int .i8 a0_1,.int .i8 a0_2,.int .i8 a0_3]) (t:=50) ?hr ?_;(case hd=>rfl);(case hg=>rfl);(case hr=>first|(go_simp;done)|(go_simp;rfl));intro gb221 hg w6 hbox hb;have n0_:=am_ (bT_ (by repeat (first|(with_reducible first|exact HB.out|apply bA_|apply bN_|apply bD_)|exact HB.out)) hb);have n1_:=am_ (hbox);have n2_:=am_ ((by rw [hg];exact (bZ_ (by repeat (first|(with_reducible first|exact HB.out|apply bA_|apply bN_|apply bD_)|exact HB.out))) : w.heap.size≤gb221));have n3_:=n2_;clear HB;have HB:=n0_;have BK221:=n1_;have GW221:=n2_;have GE221:=n3_;clear n0_ n1_ n2_ n3_;clear hb hbox hg)|((with_reducible refine gate_dst (N:=3) rfl ?_);refine box_event ?hg (N:=3) ?hd (cs:=#[.int .i8 a1_0,.int .i8 a1_1,.int .i8 a1_2,.int .i8 a1_3]) (t:=50) ?hr ?_;(case hd=>rfl);(case hg=>rfl);(case hr=>first|(go_simp;done)|(go_simp;rfl));intro gb222 hg w7 hbox hb;have n0_:=am_ (kB_ (g:=gb221) (o:=.cells #[.int .i8 a0_0,.int .i8 a0_1,.int .i8 a0_2,.int .i8 a0_3] 50 (0,0)) (by (with_reducible repeat (first|apply kN_|apply kD_|apply kA_));exact BK221.out) hb);have n1_:=am_ (bT_ (by repeat (first|(with_reducible first|exact HB.out|apply bA_|apply bN_|apply bD_|refine bS_ ?_ GE221.out)|exact HB.out)) hb);have n2_:=am_ (hbox);have n3_:=am_ ((by rw [hg];exact (bZ_ (by repeat (first|(with_reducible first|exact HB.out|apply bA_|apply bN_|apply bD_|refine bS_ ?_ GE221.out)|exact HB.out))) : w.heap.size≤gb222));have n4_:=n3_;have n5_:=am_ ((by rw [hg];exact nL_ (kL_ (g:=gb221) (o:=.cells #[.int .i8 a0_0,.int .i8 a0_1,.int .i8 a0_2,.int .i8 a0_3] 50 (0,0)) (by (with_reducible repeat (first|apply kN_|apply kD_|apply kA_));exact BK221.out)) : gb221 ≠ gb222));have n6_:=am_ ((by rw [hg];exact nG_ (kL_ (g:=gb221) (o:=.cells #[.int .i8 a0_0,.int .i8 a0_1,.int .i8 a0_2,.int .i8 a0_3] 50 (0,0)) (by (with_reducible repeat (first|apply kN_|apply kD_|apply kA_));exact BK221.out)) : gb222 ≠ gb221));clear BK221;clear HB;have BK221:=n0_;have HB:=n1_;have BK222:=n2_;have GW222:=n3_;have GE222:=n4_;have NB221_222:=n5_;have NB222_221:=n6_;clear n0_ n1_ n2_ n3_ n4_ n5_ n6_;clear hb hbox hg;have hnb8:=NB221_222.out;have hnc8:=NB222_221.out;have hcz9_0 : w7.cell? ⟨gb221,0,none⟩ = some (.int .i8 a0_0):=(kC_ BK221.out 0).trans rfl;have hcz9_1 : w7.cell? ⟨gb221,1,none⟩ = some (.int .i8 a0_1):=(kC_ BK221.out 1).trans rfl;have hcz9_2 : w7.cell? ⟨gb221,2,none⟩ = some (.int .i8 a0_2):=(kC_ BK221.out 2).trans rfl;have hcz9_3 : w7.cell? ⟨gb221,3,none⟩ = some (.int .i8 a0_3):=(kC_ BK221.out 3).trans rfl;have hfz9_0:=kF_ BK221.out 0;have hfz9_1:=kF_ BK221.out 1;have hfz9_2:=kF_ BK221.out 2;have hfz9_3:=kF_ BK221.out 3;have hcz10_0 : w7.cell? ⟨gb222,0,none⟩ = some (.int .i8 a1_0):=(kC_ BK222.out 0).trans rfl;have hcz10_1 : w7.cell? ⟨gb222,1,none⟩ = some (.int .i8 a1_1):=(kC_ BK222.out 1).trans rfl;have hcz10_2 : w7.cell? ⟨gb222,2,none⟩ = some (.int .i8 a1_2):=(kC_ BK222.out 2).trans rfl;have hcz10_3 : w7.cell? ⟨gb222,3,none⟩ = some (.int .i8 a1_3):=(kC_ BK222.out 3).trans rfl;have hfz10_0:=kF_ BK222.out 0;have hfz10_1:=kF_ BK222.out 1;have hfz10_2:=kF_ BK222.out 2;have hfz10_3:=kF_ BK222.out 3))
    go_ret
    exact ⟨by first|rfl|(simp [errW_none,errW_some] <;> rfl)|(simp [*,errW_none,errW_some] <;> rfl),by repeat (first|(with_reducible first|exact HB.out|apply bA_|apply bN_|apply bD_|refine bS_ ?_ GE221.out|refine bS_ ?_ GE222.out)|exact HB.out)⟩
   ·
    rw [if_neg c5] at H;have c5b0 : decide ((wrap64 (a0_1)) < (wrap64 ((wrap64 (a1_1)) + (wrap64 (a1_3))))) = false:=decide_eq_false c5;clear c5;obtain rfl:=Option.some.inj H
    go_enter Try.func31,Try.ntmps31
    go_wp2_with (first|((with_reducible refine gate_dst (N:=2) rfl ?_);refine box_event ?hg (N:=2) ?hd (cs:=#[.int .i8 a0_0,.int .i8 a0_1,.int .i8 a0_2,.int .i8 a0_3]) (t:=50) ?hr ?_;(case hd=>rfl);(case hg=>rfl);(case hr=>first|(go_simp;done)|(go_simp;rfl));intro gb221 hg w11 hbox hb;have n0_:=am_ (bT_ (by repeat (first|(with_reducible first|exact HB.out|apply bA_|apply bN_|apply bD_)|exact HB.out)) hb);have n1_:=am_ (hbox);have n2_:=am_ ((by rw [hg];exact (bZ_ (by repeat (first|(with_reducible first|exact HB.out|apply bA_|apply bN_|apply bD_)|exact HB.out))) : w.heap.size≤gb221));have n3_:=n2_;clear HB;have HB:=n0_;have BK221:=n1_;have GW221:=n2_;have GE221:=n3_;clear n0_ n1_ n2_ n3_;clear hb hbox hg)|((with_reducible refine gate_dst (N:=3) rfl ?_);refine box_event ?hg (N:=3) ?hd (cs:=#[.int .i8 a1_0,.int .i8 a1_1,.int .i8 a1_2,.int .i8 a1_3]) (t:=50) ?hr ?_;(case hd=>rfl);(case hg=>rfl);(case hr=>first|(go_simp;done)|(go_simp;rfl));intro gb222 hg w12 hbox hb;have n0_:=am_ (kB_ (g:=gb221) (o:=.cells #[.int .i8 a0_0,.int .i8 a0_1,.int .i8 a0_2,.int .i8 a0_3] 50 (0,0)) (by (with_reducible repeat (first|apply kN_|apply kD_|apply kA_));exact BK221.out) hb);have n1_:=am_ (bT_ (by repeat (first|(with_reducible first|exact HB.out|apply bA_|apply bN_|apply bD_|refine bS_ ?_ GE221.out)|exact HB.out)) hb);have n2_:=am_ (hbox);have n3_:=am_ ((by rw [hg];exact (bZ_ (by repeat (first|(with_reducible first|exact HB.out|apply bA_|apply bN_|apply bD_|refine bS_ ?_ GE221.out)|exact HB.out))) : w.heap.size≤gb222));have n4_:=n3_;have n5_:=am_ ((by rw [hg];exact nL_ (kL_ (g:=gb221) (o:=.cells #[.int .i8 a0_0,.int .i8 a0_1,.int .i8 a0_2,.int .i8 a0_3] 50 (0,0)) (by (with_reducible repeat (first|apply kN_|apply kD_|apply kA_));exact BK221.out)) : gb221 ≠ gb222));have n6_:=am_ ((by rw [hg];exact nG_ (kL_ (g:=gb221) (o:=.cells #[.int .i8 a0_0,.int .i8 a0_1,.int .i8 a0_2,.int .i8 a0_3] 50 (0,0)) (by (with_reducible repeat (first|apply kN_|apply kD_|apply kA_));exact BK221.out)) : gb222 ≠ gb221));clear BK221;clear HB;have BK221:=n0_;have HB:=n1_;have BK222:=n2_;have GW222:=n3_;have GE222:=n4_;have NB221_222:=n5_;have NB222_221:=n6_;clear n0_ n1_ n2_ n3_ n4_ n5_ n6_;clear hb hbox hg;have hnb13:=NB221_222.out;have hnc13:=NB222_221.out;have hcz14_0 : w12.cell? ⟨gb221,0,none⟩ = some (.int .i8 a0_0):=(kC_ BK221.out 0).trans rfl;have hcz14_1 : w12.cell? ⟨gb221,1,none⟩ = some (.int .i8 a0_1):=(kC_ BK221.out 1).trans rfl;have hcz14_2 : w12.cell? ⟨gb221,2,none⟩ = some (.int .i8 a0_2):=(kC_ BK221.out 2).trans rfl;have hcz14_3 : w12.cell? ⟨gb221,3,none⟩ = some (.int .i8 a0_3):=(kC_ BK221.out 3).trans rfl;have hfz14_0:=kF_ BK221.out 0;have hfz14_1:=kF_ BK221.out 1;have hfz14_2:=kF_ BK221.out 2;have hfz14_3:=kF_ BK221.out 3;have hcz15_0 : w12.cell? ⟨gb222,0,none⟩ = some (.int .i8 a1_0):=(kC_ BK222.out 0).trans rfl;have hcz15_1 : w12.cell? ⟨gb222,1,none⟩ = some (.int .i8 a1_1):=(kC_ BK222.out 1).trans rfl;have hcz15_2 : w12.cell? ⟨gb222,2,none⟩ = some (.int .i8 a1_2):=(kC_ BK222.out 2).trans rfl;have hcz15_3 : w12.cell? ⟨gb222,3,none⟩ = some (.int .i8 a1_3):=(kC_ BK222.out 3).trans rfl;have hfz15_0:=kF_ BK222.out 0;have hfz15_1:=kF_ BK222.out 1;have hfz15_2:=kF_ BK222.out 2;have hfz15_3:=kF_ BK222.out 3))
    go_ret
    exact ⟨by first|rfl|(simp [errW_none,errW_some] <;> rfl)|(simp [*,errW_none,errW_some] <;> rfl),by repeat (first|(with_reducible first|exact HB.out|apply bA_|apply bN_|apply bD_|refine bS_ ?_ GE221.out|refine bS_ ?_ GE222.out)|exact HB.out)⟩
  ·
   rw [if_neg c4] at H;have c4b0 : decide ((wrap64 (a1_0)) < (wrap64 ((wrap64 (a0_0)) + (wrap64 (a0_2))))) = false:=decide_eq_false c4;clear c4;obtain rfl:=Option.some.inj H
   go_enter Try.func31,Try.ntmps31
   go_wp2_with (first|((with_reducible refine gate_dst (N:=2) rfl ?_);refine box_event ?hg (N:=2) ?hd (cs:=#[.int .i8 a0_0,.int .i8 a0_1,.int .i8 a0_2,.int .i8 a0_3]) (t:=50) ?hr ?_;(case hd=>rfl);(case hg=>rfl);(case hr=>first|(go_simp;done)|(go_simp;rfl));intro gb221 hg w16 hbox hb;have n0_:=am_ (bT_ (by repeat (first|(with_reducible first|exact HB.out|apply bA_|apply bN_|apply bD_)|exact HB.out)) hb);have n1_:=am_ (hbox);have n2_:=am_ ((by rw [hg];exact (bZ_ (by repeat (first|(with_reducible first|exact HB.out|apply bA_|apply bN_|apply bD_)|exact HB.out))) : w.heap.size≤gb221));have n3_:=n2_;clear HB;have HB:=n0_;have BK221:=n1_;have GW221:=n2_;have GE221:=n3_;clear n0_ n1_ n2_ n3_;clear hb hbox hg)|((with_reducible refine gate_dst (N:=3) rfl ?_);refine box_event ?hg (N:=3) ?hd (cs:=#[.int .i8 a1_0,.int .i8 a1_1,.int .i8 a1_2,.int .i8 a1_3]) (t:=50) ?hr ?_;(case hd=>rfl);(case hg=>rfl);(case hr=>first|(go_simp;done)|(go_simp;rfl));intro gb222 hg w17 hbox hb;have n0_:=am_ (kB_ (g:=gb221) (o:=.cells #[.int .i8 a0_0,.int .i8 a0_1,.int .i8 a0_2,.int .i8 a0_3] 50 (0,0)) (by (with_reducible repeat (first|apply kN_|apply kD_|apply kA_));exact BK221.out) hb);have n1_:=am_ (bT_ (by repeat (first|(with_reducible first|exact HB.out|apply bA_|apply bN_|apply bD_|refine bS_ ?_ GE221.out)|exact HB.out)) hb);have n2_:=am_ (hbox);have n3_:=am_ ((by rw [hg];exact (bZ_ (by repeat (first|(with_reducible first|exact HB.out|apply bA_|apply bN_|apply bD_|refine bS_ ?_ GE221.out)|exact HB.out))) : w.heap.size≤gb222));have n4_:=n3_;have n5_:=am_ ((by rw [hg];exact nL_ (kL_ (g:=gb221) (o:=.cells #[.int .i8 a0_0,.int .i8 a0_1,.int .i8 a0_2,.int .i8 a0_3] 50 (0,0)) (by (with_reducible repeat (first|apply kN_|apply kD_|apply kA_));exact BK221.out)) : gb221 ≠ gb222));have n6_:=am_ ((by rw [hg];exact nG_ (kL_ (g:=gb221) (o:=.cells #[.int .i8 a0_0,.int .i8 a0_1,.int .i8 a0_2,.int .i8 a0_3] 50 (0,0)) (by (with_reducible repeat (first|apply kN_|apply kD_|apply kA_));exact BK221.out)) : gb222 ≠ gb221));clear BK221;clear HB;have BK221:=n0_;have HB:=n1_;have BK222:=n2_;have GW222:=n3_;have GE222:=n4_;have NB221_222:=n5_;have NB222_221:=n6_;clear n0_ n1_ n2_ n3_ n4_ n5_ n6_;clear hb hbox hg;have hnb18:=NB221_222.out;have hnc18:=NB222_221.out;have hcz19_0 : w17.cell? ⟨gb221,0,none⟩ = some (.int .i8 a0_0):=(kC_ BK221.out 0).trans rfl;have hcz19_1 : w17.cell? ⟨gb221,1,none⟩ = some (.int .i8 a0_1):=(kC_ BK221.out 1).trans rfl;have hcz19_2 : w17.cell? ⟨gb221,2,none⟩ = some (.int .i8 a0_2):=(kC_ BK221.out 2).trans rfl;have hcz19_3 : w17.cell? ⟨gb221,3,none⟩ = some (.int .i8 a0_3):=(kC_ BK221.out 3).trans rfl;have hfz19_0:=kF_ BK221.out 0;have hfz19_1:=kF_ BK221.out 1;have hfz19_2:=kF_ BK221.out 2;have hfz19_3:=kF_ BK221.out 3;have hcz20_0 : w17.cell? ⟨gb222,0,none⟩ = some (.int .i8 a1_0):=(kC_ BK222.out 0).trans rfl;have hcz20_1 : w17.cell? ⟨gb222,1,none⟩ = some (.int .i8 a1_1):=(kC_ BK222.out 1).trans rfl;have hcz20_2 : w17.cell? ⟨gb222,2,none⟩ = some (.int .i8 a1_2):=(kC_ BK222.out 2).trans rfl;have hcz20_3 : w17.cell? ⟨gb222,3,none⟩ = some (.int .i8 a1_3):=(kC_ BK222.out 3).trans rfl;have hfz20_0:=kF_ BK222.out 0;have hfz20_1:=kF_ BK222.out 1;have hfz20_2:=kF_ BK222.out 2;have hfz20_3:=kF_ BK222.out 3))
   go_ret
   exact ⟨by first|rfl|(simp [errW_none,errW_some] <;> rfl)|(simp [*,errW_none,errW_some] <;> rfl),by repeat (first|(with_reducible first|exact HB.out|apply bA_|apply bN_|apply bD_|refine bS_ ?_ GE221.out|refine bS_ ?_ GE222.out)|exact HB.out)⟩
 ·
  rw [if_neg c3] at H;have c3b0 : decide ((wrap64 (a0_0)) < (wrap64 ((wrap64 (a1_0)) + (wrap64 (a1_2))))) = false:=decide_eq_false c3;clear c3;obtain rfl:=Option.some.inj H
  go_enter Try.func31,Try.ntmps31
  go_wp2_with (first|((with_reducible refine gate_dst (N:=2) rfl ?_);refine box_event ?hg (N:=2) ?hd (cs:=#[.int .i8 a0_0,.int .i8 a0_1,.int .i8 a0_2,.int .i8 a0_3]) (t:=50) ?hr ?_;(case hd=>rfl);(case hg=>rfl);(case hr=>first|(go_simp;done)|(go_simp;rfl));intro gb221 hg w21 hbox hb;have n0_:=am_ (bT_ (by repeat (first|(with_reducible first|exact HB.out|apply bA_|apply bN_|apply bD_)|exact HB.out)) hb);have n1_:=am_ (hbox);have n2_:=am_ ((by rw [hg];exact (bZ_ (by repeat (first|(with_reducible first|exact HB.out|apply bA_|apply bN_|apply bD_)|exact HB.out))) : w.heap.size≤gb221));have n3_:=n2_;clear HB;have HB:=n0_;have BK221:=n1_;have GW221:=n2_;have GE221:=n3_;clear n0_ n1_ n2_ n3_;clear hb hbox hg)|((with_reducible refine gate_dst (N:=3) rfl ?_);refine box_event ?hg (N:=3) ?hd (cs:=#[.int .i8 a1_0,.int .i8 a1_1,.int .i8 a1_2,.int .i8 a1_3]) (t:=50) ?hr ?_;(case hd=>rfl);(case hg=>rfl);(case hr=>first|(go_simp;done)|(go_simp;rfl));intro gb222 hg w22 hbox hb;have n0_:=am_ (kB_ (g:=gb221) (o:=.cells #[.int .i8 a0_0,.int .i8 a0_1,.int .i8 a0_2,.int .i8 a0_3] 50 (0,0)) (by (with_reducible repeat (first|apply kN_|apply kD_|apply kA_));exact BK221.out) hb);have n1_:=am_ (bT_ (by repeat (first|(with_reducible first|exact HB.out|apply bA_|apply bN_|apply bD_|refine bS_ ?_ GE221.out)|exact HB.out)) hb);have n2_:=am_ (hbox);have n3_:=am_ ((by rw [hg];exact (bZ_ (by repeat (first|(with_reducible first|exact HB.out|apply bA_|apply bN_|apply bD_|refine bS_ ?_ GE221.out)|exact HB.out))) : w.heap.size≤gb222));have n4_:=n3_;have n5_:=am_ ((by rw [hg];exact nL_ (kL_ (g:=gb221) (o:=.cells #[.int .i8 a0_0,.int .i8 a0_1,.int .i8 a0_2,.int .i8 a0_3] 50 (0,0)) (by (with_reducible repeat (first|apply kN_|apply kD_|apply kA_));exact BK221.out)) : gb221 ≠ gb222));have n6_:=am_ ((by rw [hg];exact nG_ (kL_ (g:=gb221) (o:=.cells #[.int .i8 a0_0,.int .i8 a0_1,.int .i8 a0_2,.int .i8 a0_3] 50 (0,0)) (by (with_reducible repeat (first|apply kN_|apply kD_|apply kA_));exact BK221.out)) : gb222 ≠ gb221));clear BK221;clear HB;have BK221:=n0_;have HB:=n1_;have BK222:=n2_;have GW222:=n3_;have GE222:=n4_;have NB221_222:=n5_;have NB222_221:=n6_;clear n0_ n1_ n2_ n3_ n4_ n5_ n6_;clear hb hbox hg;have hnb23:=NB221_222.out;have hnc23:=NB222_221.out;have hcz24_0 : w22.cell? ⟨gb221,0,none⟩ = some (.int .i8 a0_0):=(kC_ BK221.out 0).trans rfl;have hcz24_1 : w22.cell? ⟨gb221,1,none⟩ = some (.int .i8 a0_1):=(kC_ BK221.out 1).trans rfl;have hcz24_2 : w22.cell? ⟨gb221,2,none⟩ = some (.int .i8 a0_2):=(kC_ BK221.out 2).trans rfl;have hcz24_3 : w22.cell? ⟨gb221,3,none⟩ = some (.int .i8 a0_3):=(kC_ BK221.out 3).trans rfl;have hfz24_0:=kF_ BK221.out 0;have hfz24_1:=kF_ BK221.out 1;have hfz24_2:=kF_ BK221.out 2;have hfz24_3:=kF_ BK221.out 3;have hcz25_0 : w22.cell? ⟨gb222,0,none⟩ = some (.int .i8 a1_0):=(kC_ BK222.out 0).trans rfl;have hcz25_1 : w22.cell? ⟨gb222,1,none⟩ = some (.int .i8 a1_1):=(kC_ BK222.out 1).trans rfl;have hcz25_2 : w22.cell? ⟨gb222,2,none⟩ = some (.int .i8 a1_2):=(kC_ BK222.out 2).trans rfl;have hcz25_3 : w22.cell? ⟨gb222,3,none⟩ = some (.int .i8 a1_3):=(kC_ BK222.out 3).trans rfl;have hfz25_0:=kF_ BK222.out 0;have hfz25_1:=kF_ BK222.out 1;have hfz25_2:=kF_ BK222.out 2;have hfz25_3:=kF_ BK222.out 3))
  go_ret
  exact ⟨by first|rfl|(simp [errW_none,errW_some] <;> rfl)|(simp [*,errW_none,errW_some] <;> rfl),by repeat (first|(with_reducible first|exact HB.out|apply bA_|apply bN_|apply bD_|refine bS_ ?_ GE221.out|refine bS_ ?_ GE222.out)|exact HB.out)⟩
def cmp_Or_int.l0 : Nat → Int → List Int → Int → Int → Option (Int)
 | 0,_,_,_,_=>none
 | k + 1,x3,x6,x7,x8=>if x8 < x7 then (if 0≤x8 then (if x8 < (x6.length : Int) then (if (rd x6 x8) = x3 then (cmp_Or_int.l0 k x3 x6 x7 (wrap64 (x8 + 1))) else (some (rd x6 x8))) else (none)) else (none)) else (some x3)
def cmp_Or_int.f (k : Nat) (l0 : List Int) : Option (Int) := cmp_Or_int.l0 k 0 l0 (l0.length : Int) 0
theorem cmp_Or_int.mono_l : ∀ k, (∀ y0 y1 y2 y3, LeO (cmp_Or_int.l0 k y0 y1 y2 y3) (cmp_Or_int.l0 (k + 1) y0 y1 y2 y3))
 | 0=>fun _ _ _ _ r h=>by simp [cmp_Or_int.l0] at h
 | k + 1=>by
  have ih0:=cmp_Or_int.mono_l k
  ·
   intro y0 y1 y2 y3
   unfold cmp_Or_int.l0
   repeat' first
   | (with_reducible exact ih0 _ _ _ _)
   | (with_reducible exact LeO.refl _)
   | (with_reducible exact LeO.none _)
   | (with_reducible refine LeO.ite ?_ ?_)
   | (with_reducible refine LeO.bind ?_ (fun _=>?_))
   | exact ih0 _ _ _ _
   | exact LeO.none _
   | refine LeO.ite ?_ ?_
   | refine LeO.bind ?_ (fun _=>?_)
theorem cmp_Or_int.mono : ∀ a0 k, LeO (cmp_Or_int.f k a0) (cmp_Or_int.f (k + 1) a0) := by
 intro a0 k;have ih0:=cmp_Or_int.mono_l k
 unfold cmp_Or_int.f
 repeat' first
   | (with_reducible exact ih0 _ _ _ _)
   | (with_reducible exact LeO.refl _)
   | (with_reducible exact LeO.none _)
   | (with_reducible refine LeO.ite ?_ ?_)
   | (with_reducible refine LeO.bind ?_ (fun _=>?_))
   | exact ih0 _ _ _ _
   | exact LeO.none _
   | refine LeO.ite ?_ ?_
   | refine LeO.bind ?_ (fun _=>?_)
set_option maxHeartbeats 8000000 in
set_option maxRecDepth 100000 in
theorem cmp_Or_int.calls (k : Nat) (A0 : Option Addr) (c0 : Nat) (l0 : List Int) (r : Int) (w : World) (hr0 : Kd.C (Kd.int .i64) w A0 l0.length l0) (hc0 : l0.length ≤ c0) (h : cmp_Or_int.f k l0 = some r) :
  Calls Try.prog 56 #[.slice A0 l0.length c0] w fun e w'=>e = .returned (.int .i64 r) ∧ Drawn0 w w':=by
 have HR0:=am_ hr0;have HC0:=am_ hc0;clear hr0 hc0;have H : (cmp_Or_int.l0 k 0 l0 (l0.length : Int) 0) = some r:=h;clear h;have H':=am_ H;clear H
 go_enter Try.func56,Try.ntmps56
 go_wp2
 go_loopg [8] k (fun kq v8 w'=>∃ (x8_1 : Int),v8 = .int .i64 x8_1 ∧ Aside0 (cmp_Or_int.l0 kq 0 l0 (l0.length : Int) x8_1 = some r) ∧ Aside0 (kq≤k) ∧ Drawn0 w w')
 case atStart=>exact ⟨(0),(by first|rfl|(simp;done)|(simp [*];done)),H',⟨Nat.le_refl _⟩,by repeat (first|exact Drawn0.refl _|apply Drawn0.step)⟩
 case round =>
  clear H';obtain ⟨x8_1,rfl,HA,HK1,⟨m1,rfl⟩⟩:=hrel
  cases gk with
  | zero=>exact absurd HA.out (by simp [cmp_Or_int.l0])
  | succ k1 =>
   have H:=HA.out;clear HA;simp only [cmp_Or_int.l0] at H
   by_cases c2 : x8_1 < (l0.length : Int)
   ·
    rw [if_pos c2] at H;have c2b0 : decide (x8_1 < (l0.length : Int)) = true:=decide_eq_true c2;clear c2
    by_cases c3 : 0≤x8_1
    ·
     rw [if_pos c3] at H;have c3b0 : decide (0≤x8_1) = true:=decide_eq_true c3;clear c3
     by_cases c4 : x8_1 < (l0.length : Int)
     ·
      rw [if_pos c4] at H;have c4b0 : decide (x8_1 < (l0.length : Int)) = true:=decide_eq_true c4;clear c4
      by_cases c5 : (rd l0 x8_1) = 0
      ·
       rw [if_pos c5] at H;have c5b0 : ((rd l0 x8_1) == 0) = true:=beq_iff_eq.mpr c5;have c5b1 : ((rd l0 x8_1) != 0) = false:=bne_eq_false_iff_eq.mpr c5;clear c5;have H':=am_ H;clear H;have p223 : 0≤(x8_1 : Int):=od_ (by first|(with_reducible assumption)|assumption);have q223 : x8_1 < (l0.length : Int):=od_ (by first|(with_reducible assumption)|assumption);obtain ⟨ad223,e223,hx223_0⟩:=Kd.at_int HR0.out x8_1 p223 q223
       cases e223
       replace p223:=eq_true p223;replace q223:=eq_true q223
       go_wp2
       go_roundg k1
       case measure=>have:=HK1.out;omega
       case rel=>exact ⟨(wrap64 (x8_1 + 1)),(by first|rfl|(simp;done)|(simp [*];done)),H',⟨by have:=HK1.out;omega⟩,by repeat (first|exact Drawn0.refl _|apply Drawn0.step)⟩
      ·
       rw [if_neg c5] at H;have c5b0 : ((rd l0 x8_1) == 0) = false:=beq_eq_false_iff_ne.mpr c5;have c5b1 : ((rd l0 x8_1) != 0) = true:=bne_iff_ne.mpr c5;obtain rfl:=Option.some.inj H;have p223 : 0≤(x8_1 : Int):=od_ (by first|(with_reducible assumption)|assumption);have q223 : x8_1 < (l0.length : Int):=od_ (by first|(with_reducible assumption)|assumption);obtain ⟨ad223,e223,hx223_0⟩:=Kd.at_int HR0.out x8_1 p223 q223
       cases e223
       replace p223:=eq_true p223;replace q223:=eq_true q223
       go_wp2
       go_ret
       exact ⟨by first|rfl|(simp;done)|(simp [*];done),by repeat (first|exact Drawn0.refl _|apply Drawn0.step)⟩
     · rw [if_neg c4] at H;exact absurd H (by simp)
    · rw [if_neg c3] at H;exact absurd H (by simp)
   ·
    rw [if_neg c2] at H;have c2b0 : decide (x8_1 < (l0.length : Int)) = false:=decide_eq_false c2;clear c2;obtain rfl:=Option.some.inj H
    go_wp2
    go_ret
    exact ⟨by first|rfl|(simp;done)|(simp [*];done),by repeat (first|exact Drawn0.refl _|apply Drawn0.step)⟩
def cmp_isNaN_int8.f (a0 : Int) : Option (Bool) := some (a0 != a0)
set_option maxHeartbeats 8000000 in
set_option maxRecDepth 100000 in
theorem cmp_isNaN_int8.calls (a0 : Int) (r : Bool) (w : World) (h : cmp_isNaN_int8.f a0 = some r) :
  Calls Try.prog 64 #[.int .i8 a0] w fun e w'=>e = .returned (.bool r) ∧ Drawn0 w w':=by
 have H : (some (a0 != a0)) = some r:=h;clear h;obtain rfl:=Option.some.inj H
 go_enter Try.func64,Try.ntmps64
 go_wp2
 go_ret
 exact ⟨by first|rfl|(simp;done)|(simp [*];done),by repeat (first|exact Drawn0.refl _|apply Drawn0.step)⟩
def cmp_Compare_int8.f (a0 : Int) (a1 : Int) : Option (Int) := (cmp_isNaN_int8.f a0).bind fun t224 => ((cmp_isNaN_int8.f a1).bind fun t225 => (if t224 = true then (if t225 = true then (some 0) else (some (-1))) else (if t225 = true then (some 1) else (if a0 < a1 then (some (-1)) else (if a0 > a1 then (some 1) else (some 0))))))
set_option maxHeartbeats 8000000 in
set_option maxRecDepth 100000 in
theorem cmp_Compare_int8.calls (a0 : Int) (a1 : Int) (r : Int) (w : World) (h : cmp_Compare_int8.f a0 a1 = some r) :
  Calls Try.prog 57 #[.int .i8 a0,.int .i8 a1] w fun e w'=>e = .returned (.int .i64 r) ∧ Drawn0 w w':=by
 have H : ((cmp_isNaN_int8.f a0).bind fun t224=>((cmp_isNaN_int8.f a1).bind fun t225=>(if t224 = true then (if t225 = true then (some 0) else (some (-1))) else (if t225 = true then (some 1) else (if a0 < a1 then (some (-1)) else (if a0 > a1 then (some 1) else (some 0))))))) = some r:=h;clear h;replace H:=Option.bind_eq_some_iff.mp H;obtain ⟨t224,A30,H⟩:=H;replace H : ((cmp_isNaN_int8.f a1).bind fun t225=>(if t224 = true then (if t225 = true then (some 0) else (some (-1))) else (if t225 = true then (some 1) else (if a0 < a1 then (some (-1)) else (if a0 > a1 then (some 1) else (some 0)))))) = some r:=H;have A3:=am_ A30;clear A30;replace H:=Option.bind_eq_some_iff.mp H;obtain ⟨t225,A40,H⟩:=H;replace H : (if t224 = true then (if t225 = true then (some 0) else (some (-1))) else (if t225 = true then (some 1) else (if a0 < a1 then (some (-1)) else (if a0 > a1 then (some 1) else (some 0))))) = some r:=H;have A4:=am_ A40;clear A40
 by_cases c5 : t224 = true
 ·
  subst c5;have H1 : (if t225 = true then (some 0) else (some (-1))) = some r:=by rw [if_pos rfl] at H;exact H
  clear H;have H:=H1;clear H1
  by_cases c6 : t225 = true
  ·
   subst c6;have H1 : (some 0) = some r:=by rw [if_pos rfl] at H;exact H
   clear H;have H:=H1;clear H1;obtain rfl:=Option.some.inj H
   go_enter Try.func57,Try.ntmps57
   go_wp2_with (first|((with_reducible refine gate_callee (f:=64) rfl ?_);refine goesL_ (some 8) rfl rfl Try.func64 (by kernel_rfl) rfl #[.int .i8 a0] rfl (by (try simp only [List.map_toArray,List.map_cons,List.map_nil]);first|done|rfl|(simp only [List.length_drop,List.length_take];rfl)) ?_;(with_reducible refine (cmp_isNaN_int8.calls a0 true _ A3.out).mono ?_);rintro e w' ⟨rfl,⟨nd,rfl⟩⟩;refine ⟨_,rfl,?_⟩)|((with_reducible refine gate_callee (f:=64) rfl ?_);refine goesL_ (some 10) rfl rfl Try.func64 (by kernel_rfl) rfl #[.int .i8 a1] rfl (by (try simp only [List.map_toArray,List.map_cons,List.map_nil]);first|done|rfl|(simp only [List.length_drop,List.length_take];rfl)) ?_;(with_reducible refine (cmp_isNaN_int8.calls a1 true _ A4.out).mono ?_);rintro e w' ⟨rfl,⟨nd,rfl⟩⟩;refine ⟨_,rfl,?_⟩))
   go_ret
   exact ⟨by first|rfl|(simp;done)|(simp [*];done),by repeat (first|exact Drawn0.refl _|apply Drawn0.step)⟩
  ·
   replace c6:=Bool.eq_false_iff.mpr c6;subst c6;have H1 : (some (-1)) = some r:=by rw [if_neg (show ¬ (false = true) by decide)] at H;exact H
   clear H;have H:=H1;clear H1;obtain rfl:=Option.some.inj H
   go_enter Try.func57,Try.ntmps57
   go_wp2_with (first|((with_reducible refine gate_callee (f:=64) rfl ?_);refine goesL_ (some 8) rfl rfl Try.func64 (by kernel_rfl) rfl #[.int .i8 a0] rfl (by (try simp only [List.map_toArray,List.map_cons,List.map_nil]);first|done|rfl|(simp only [List.length_drop,List.length_take];rfl)) ?_;(with_reducible refine (cmp_isNaN_int8.calls a0 true _ A3.out).mono ?_);rintro e w' ⟨rfl,⟨nd,rfl⟩⟩;refine ⟨_,rfl,?_⟩)|((with_reducible refine gate_callee (f:=64) rfl ?_);refine goesL_ (some 10) rfl rfl Try.func64 (by kernel_rfl) rfl #[.int .i8 a1] rfl (by (try simp only [List.map_toArray,List.map_cons,List.map_nil]);first|done|rfl|(simp only [List.length_drop,List.length_take];rfl)) ?_;(with_reducible refine (cmp_isNaN_int8.calls a1 false _ A4.out).mono ?_);rintro e w' ⟨rfl,⟨nd,rfl⟩⟩;refine ⟨_,rfl,?_⟩))
   go_ret
   exact ⟨by first|rfl|(simp;done)|(simp [*];done),by repeat (first|exact Drawn0.refl _|apply Drawn0.step)⟩
 ·
  replace c5:=Bool.eq_false_iff.mpr c5;subst c5;have H1 : (if t225 = true then (some 1) else (if a0 < a1 then (some (-1)) else (if a0 > a1 then (some 1) else (some 0)))) = some r:=by rw [if_neg (show ¬ (false = true) by decide)] at H;exact H
  clear H;have H:=H1;clear H1
  by_cases c7 : t225 = true
  ·
   subst c7;have H1 : (some 1) = some r:=by rw [if_pos rfl] at H;exact H
   clear H;have H:=H1;clear H1;obtain rfl:=Option.some.inj H
   go_enter Try.func57,Try.ntmps57
   go_wp2_with (first|((with_reducible refine gate_callee (f:=64) rfl ?_);refine goesL_ (some 8) rfl rfl Try.func64 (by kernel_rfl) rfl #[.int .i8 a0] rfl (by (try simp only [List.map_toArray,List.map_cons,List.map_nil]);first|done|rfl|(simp only [List.length_drop,List.length_take];rfl)) ?_;(with_reducible refine (cmp_isNaN_int8.calls a0 false _ A3.out).mono ?_);rintro e w' ⟨rfl,⟨nd,rfl⟩⟩;refine ⟨_,rfl,?_⟩)|((with_reducible refine gate_callee (f:=64) rfl ?_);refine goesL_ (some 10) rfl rfl Try.func64 (by kernel_rfl) rfl #[.int .i8 a1] rfl (by (try simp only [List.map_toArray,List.map_cons,List.map_nil]);first|done|rfl|(simp only [List.length_drop,List.length_take];rfl)) ?_;(with_reducible refine (cmp_isNaN_int8.calls a1 true _ A4.out).mono ?_);rintro e w' ⟨rfl,⟨nd,rfl⟩⟩;refine ⟨_,rfl,?_⟩))
   go_ret
   exact ⟨by first|rfl|(simp;done)|(simp [*];done),by repeat (first|exact Drawn0.refl _|apply Drawn0.step)⟩
  ·
   replace c7:=Bool.eq_false_iff.mpr c7;subst c7;have H1 : (if a0 < a1 then (some (-1)) else (if a0 > a1 then (some 1) else (some 0))) = some r:=by rw [if_neg (show ¬ (false = true) by decide)] at H;exact H
   clear H;have H:=H1;clear H1
   by_cases c8 : a0 < a1
   ·
    rw [if_pos c8] at H;have c8b0 : decide (a0 < a1) = true:=decide_eq_true c8;clear c8;obtain rfl:=Option.some.inj H
    go_enter Try.func57,Try.ntmps57
    go_wp2_with (first|((with_reducible refine gate_callee (f:=64) rfl ?_);refine goesL_ (some 8) rfl rfl Try.func64 (by kernel_rfl) rfl #[.int .i8 a0] rfl (by (try simp only [List.map_toArray,List.map_cons,List.map_nil]);first|done|rfl|(simp only [List.length_drop,List.length_take];rfl)) ?_;(with_reducible refine (cmp_isNaN_int8.calls a0 false _ A3.out).mono ?_);rintro e w' ⟨rfl,⟨nd,rfl⟩⟩;refine ⟨_,rfl,?_⟩)|((with_reducible refine gate_callee (f:=64) rfl ?_);refine goesL_ (some 10) rfl rfl Try.func64 (by kernel_rfl) rfl #[.int .i8 a1] rfl (by (try simp only [List.map_toArray,List.map_cons,List.map_nil]);first|done|rfl|(simp only [List.length_drop,List.length_take];rfl)) ?_;(with_reducible refine (cmp_isNaN_int8.calls a1 false _ A4.out).mono ?_);rintro e w' ⟨rfl,⟨nd,rfl⟩⟩;refine ⟨_,rfl,?_⟩))
    go_ret
    exact ⟨by first|rfl|(simp;done)|(simp [*];done),by repeat (first|exact Drawn0.refl _|apply Drawn0.step)⟩
   ·
    rw [if_neg c8] at H;have c8b0 : decide (a0 < a1) = false:=decide_eq_false c8;clear c8
    by_cases c9 : a0 > a1
    ·
     rw [if_pos c9] at H;have c9b0 : decide (a1 < a0) = true:=decide_eq_true c9;clear c9;obtain rfl:=Option.some.inj H
     go_enter Try.func57,Try.ntmps57
     go_wp2_with (first|((with_reducible refine gate_callee (f:=64) rfl ?_);refine goesL_ (some 8) rfl rfl Try.func64 (by kernel_rfl) rfl #[.int .i8 a0] rfl (by (try simp only [List.map_toArray,List.map_cons,List.map_nil]);first|done|rfl|(simp only [List.length_drop,List.length_take];rfl)) ?_;(with_reducible refine (cmp_isNaN_int8.calls a0 false _ A3.out).mono ?_);rintro e w' ⟨rfl,⟨nd,rfl⟩⟩;refine ⟨_,rfl,?_⟩)|((with_reducible refine gate_callee (f:=64) rfl ?_);refine goesL_ (some 10) rfl rfl Try.func64 (by kernel_rfl) rfl #[.int .i8 a1] rfl (by (try simp only [List.map_toArray,List.map_cons,List.map_nil]);first|done|rfl|(simp only [List.length_drop,List.length_take];rfl)) ?_;(with_reducible refine (cmp_isNaN_int8.calls a1 false _ A4.out).mono ?_);rintro e w' ⟨rfl,⟨nd,rfl⟩⟩;refine ⟨_,rfl,?_⟩))
     go_ret
     exact ⟨by first|rfl|(simp;done)|(simp [*];done),by repeat (first|exact Drawn0.refl _|apply Drawn0.step)⟩
    ·
     rw [if_neg c9] at H;have c9b0 : decide (a1 < a0) = false:=decide_eq_false c9;clear c9;obtain rfl:=Option.some.inj H
     go_enter Try.func57,Try.ntmps57
     go_wp2_with (first|((with_reducible refine gate_callee (f:=64) rfl ?_);refine goesL_ (some 8) rfl rfl Try.func64 (by kernel_rfl) rfl #[.int .i8 a0] rfl (by (try simp only [List.map_toArray,List.map_cons,List.map_nil]);first|done|rfl|(simp only [List.length_drop,List.length_take];rfl)) ?_;(with_reducible refine (cmp_isNaN_int8.calls a0 false _ A3.out).mono ?_);rintro e w' ⟨rfl,⟨nd,rfl⟩⟩;refine ⟨_,rfl,?_⟩)|((with_reducible refine gate_callee (f:=64) rfl ?_);refine goesL_ (some 10) rfl rfl Try.func64 (by kernel_rfl) rfl #[.int .i8 a1] rfl (by (try simp only [List.map_toArray,List.map_cons,List.map_nil]);first|done|rfl|(simp only [List.length_drop,List.length_take];rfl)) ?_;(with_reducible refine (cmp_isNaN_int8.calls a1 false _ A4.out).mono ?_);rintro e w' ⟨rfl,⟨nd,rfl⟩⟩;refine ⟨_,rfl,?_⟩))
     go_ret
     exact ⟨by first|rfl|(simp;done)|(simp [*];done),by repeat (first|exact Drawn0.refl _|apply Drawn0.step)⟩
end Go.Proofs.Ytljfjljeabcfgaa.Q
