-- Trimmed by a program.
import Derived.Test.YteinapckfhpdkaaDoorXQ0
namespace Go.Proofs.YteinapckfhpdkaaDoor.Q
open Go.RowKit Go.Proofs.YteinapckfhpdkaaDoorW.PrintWords Go.Proofs.YteinapckfhpdkaaDoorW.PrintLast Go.Proofs.YteinapckfhpdkaaDoorW.PrintMore
attribute [local go_sem] max2_int min2_int max_two min_two max_three min_three max_four min_four
set_option linter.unusedVariables false
set_option linter.unusedSimpArgs false
def laws_eqSlab.f (a0_0 : Int) (a0_1 : Int) (a0_2 : Int) (a0_3 : Int) (a1_0 : Int) (a1_1 : Int) (a1_2 : Int) (a1_3 : Int) : Option (Bool) := if a0_0 = a1_0 then (if a0_1 = a1_1 then (if a0_2 = a1_2 then (if a0_3 = a1_3 then (some true) else (some false)) else (some false)) else (some false)) else (some false)
set_option maxHeartbeats 8000000 in
set_option maxRecDepth 100000 in
theorem laws_eqSlab.calls (a0_0 : Int) (a0_1 : Int) (a0_2 : Int) (a0_3 : Int) (a1_0 : Int) (a1_1 : Int) (a1_2 : Int) (a1_3 : Int) (r : Bool) (w : World) (h : laws_eqSlab.f a0_0 a0_1 a0_2 a0_3 a1_0 a1_1 a1_2 a1_3 = some r) :
  Calls Tryd.prog 30 #[.agg #[.int .i8 a0_0,.int .i8 a0_1,.int .i8 a0_2,.int .i8 a0_3],.agg #[.int .i8 a1_0,.int .i8 a1_1,.int .i8 a1_2,.int .i8 a1_3]] w fun e w'=>e = .returned (.bool r) ∧ Below w.heap.size w w':=by
 have hu36:=Tryd.underlying36;have HB:=am_ (Below.refl w.heap.size w);have H : (if a0_0 = a1_0 then (if a0_1 = a1_1 then (if a0_2 = a1_2 then (if a0_3 = a1_3 then (some true) else (some false)) else (some false)) else (some false)) else (some false)) = some r:=h;clear h
 by_cases c3 : a0_0 = a1_0
 ·
  rw [if_pos c3] at H;have c3b0 : (a0_0 == a1_0) = true:=beq_iff_eq.mpr c3;have c3b1 : (a0_0 != a1_0) = false:=bne_eq_false_iff_eq.mpr c3;clear c3
  by_cases c4 : a0_1 = a1_1
  ·
   rw [if_pos c4] at H;have c4b0 : (a0_1 == a1_1) = true:=beq_iff_eq.mpr c4;have c4b1 : (a0_1 != a1_1) = false:=bne_eq_false_iff_eq.mpr c4;clear c4
   by_cases c5 : a0_2 = a1_2
   ·
    rw [if_pos c5] at H;have c5b0 : (a0_2 == a1_2) = true:=beq_iff_eq.mpr c5;have c5b1 : (a0_2 != a1_2) = false:=bne_eq_false_iff_eq.mpr c5;clear c5
    by_cases c6 : a0_3 = a1_3
    ·
     rw [if_pos c6] at H;have c6b0 : (a0_3 == a1_3) = true:=beq_iff_eq.mpr c6;have c6b1 : (a0_3 != a1_3) = false:=bne_eq_false_iff_eq.mpr c6;clear c6;obtain rfl:=Option.some.inj H
     go_enter Tryd.func30,Tryd.ntmps30
     go_wp2_with (first|((with_reducible refine gate_dst (N:=2) rfl ?_);refine box_event ?hg (N:=2) ?hd (cs:=#[.int .i8 a0_0,.int .i8 a0_1,.int .i8 a0_2,.int .i8 a0_3]) (t:=36) ?hr ?_;(case hd=>rfl);(case hg=>rfl);(case hr=>first|(go_simp;done)|(go_simp;rfl));intro gb268 hg w7 hbox hb;have n0_:=am_ (bT_ (by repeat (first|(with_reducible first|exact HB.out|apply bA_|apply bN_|apply bD_)|exact HB.out)) hb);have n1_:=am_ (hbox);have n2_:=am_ ((by rw [hg];exact (bZ_ (by repeat (first|(with_reducible first|exact HB.out|apply bA_|apply bN_|apply bD_)|exact HB.out))) : w.heap.size≤gb268));have n3_:=n2_;clear HB;have HB:=n0_;have BK268:=n1_;have GW268:=n2_;have GE268:=n3_;clear n0_ n1_ n2_ n3_;clear hb hbox hg)|((with_reducible refine gate_dst (N:=3) rfl ?_);refine box_event ?hg (N:=3) ?hd (cs:=#[.int .i8 a1_0,.int .i8 a1_1,.int .i8 a1_2,.int .i8 a1_3]) (t:=36) ?hr ?_;(case hd=>rfl);(case hg=>rfl);(case hr=>first|(go_simp;done)|(go_simp;rfl));intro gb269 hg w8 hbox hb;have n0_:=am_ (kB_ (g:=gb268) (o:=.cells #[.int .i8 a0_0,.int .i8 a0_1,.int .i8 a0_2,.int .i8 a0_3] 36 (0,0)) (by (with_reducible repeat (first|apply kN_|apply kD_|apply kA_));exact BK268.out) hb);have n1_:=am_ (bT_ (by repeat (first|(with_reducible first|exact HB.out|apply bA_|apply bN_|apply bD_|refine bS_ ?_ GE268.out)|exact HB.out)) hb);have n2_:=am_ (hbox);have n3_:=am_ ((by rw [hg];exact (bZ_ (by repeat (first|(with_reducible first|exact HB.out|apply bA_|apply bN_|apply bD_|refine bS_ ?_ GE268.out)|exact HB.out))) : w.heap.size≤gb269));have n4_:=n3_;have n5_:=am_ ((by rw [hg];exact nL_ (kL_ (g:=gb268) (o:=.cells #[.int .i8 a0_0,.int .i8 a0_1,.int .i8 a0_2,.int .i8 a0_3] 36 (0,0)) (by (with_reducible repeat (first|apply kN_|apply kD_|apply kA_));exact BK268.out)) : gb268 ≠ gb269));have n6_:=am_ ((by rw [hg];exact nG_ (kL_ (g:=gb268) (o:=.cells #[.int .i8 a0_0,.int .i8 a0_1,.int .i8 a0_2,.int .i8 a0_3] 36 (0,0)) (by (with_reducible repeat (first|apply kN_|apply kD_|apply kA_));exact BK268.out)) : gb269 ≠ gb268));clear BK268;clear HB;have BK268:=n0_;have HB:=n1_;have BK269:=n2_;have GW269:=n3_;have GE269:=n4_;have NB268_269:=n5_;have NB269_268:=n6_;clear n0_ n1_ n2_ n3_ n4_ n5_ n6_;clear hb hbox hg;have hnb9:=NB268_269.out;have hnc9:=NB269_268.out;have hcz10_0 : w8.cell? ⟨gb268,0,none⟩ = some (.int .i8 a0_0):=(kC_ BK268.out 0).trans rfl;have hcz10_1 : w8.cell? ⟨gb268,1,none⟩ = some (.int .i8 a0_1):=(kC_ BK268.out 1).trans rfl;have hcz10_2 : w8.cell? ⟨gb268,2,none⟩ = some (.int .i8 a0_2):=(kC_ BK268.out 2).trans rfl;have hcz10_3 : w8.cell? ⟨gb268,3,none⟩ = some (.int .i8 a0_3):=(kC_ BK268.out 3).trans rfl;have hfz10_0:=kF_ BK268.out 0;have hfz10_1:=kF_ BK268.out 1;have hfz10_2:=kF_ BK268.out 2;have hfz10_3:=kF_ BK268.out 3;have hcz11_0 : w8.cell? ⟨gb269,0,none⟩ = some (.int .i8 a1_0):=(kC_ BK269.out 0).trans rfl;have hcz11_1 : w8.cell? ⟨gb269,1,none⟩ = some (.int .i8 a1_1):=(kC_ BK269.out 1).trans rfl;have hcz11_2 : w8.cell? ⟨gb269,2,none⟩ = some (.int .i8 a1_2):=(kC_ BK269.out 2).trans rfl;have hcz11_3 : w8.cell? ⟨gb269,3,none⟩ = some (.int .i8 a1_3):=(kC_ BK269.out 3).trans rfl;have hfz11_0:=kF_ BK269.out 0;have hfz11_1:=kF_ BK269.out 1;have hfz11_2:=kF_ BK269.out 2;have hfz11_3:=kF_ BK269.out 3))
     go_ret
     exact ⟨by first|rfl|(simp [errW_none,errW_some] <;> rfl)|(simp [*,errW_none,errW_some] <;> rfl),by repeat (first|(with_reducible first|exact HB.out|apply bA_|apply bN_|apply bD_|refine bS_ ?_ GE268.out|refine bS_ ?_ GE269.out)|exact HB.out)⟩
    ·
     rw [if_neg c6] at H;have c6b0 : (a0_3 == a1_3) = false:=beq_eq_false_iff_ne.mpr c6;have c6b1 : (a0_3 != a1_3) = true:=bne_iff_ne.mpr c6;obtain rfl:=Option.some.inj H
     go_enter Tryd.func30,Tryd.ntmps30
     go_wp2_with (first|((with_reducible refine gate_dst (N:=2) rfl ?_);refine box_event ?hg (N:=2) ?hd (cs:=#[.int .i8 a0_0,.int .i8 a0_1,.int .i8 a0_2,.int .i8 a0_3]) (t:=36) ?hr ?_;(case hd=>rfl);(case hg=>rfl);(case hr=>first|(go_simp;done)|(go_simp;rfl));intro gb268 hg w12 hbox hb;have n0_:=am_ (bT_ (by repeat (first|(with_reducible first|exact HB.out|apply bA_|apply bN_|apply bD_)|exact HB.out)) hb);have n1_:=am_ (hbox);have n2_:=am_ ((by rw [hg];exact (bZ_ (by repeat (first|(with_reducible first|exact HB.out|apply bA_|apply bN_|apply bD_)|exact HB.out))) : w.heap.size≤gb268));have n3_:=n2_;clear HB;have HB:=n0_;have BK268:=n1_;have GW268:=n2_;have GE268:=n3_;clear n0_ n1_ n2_ n3_;clear hb hbox hg)|((with_reducible refine gate_dst (N:=3) rfl ?_);refine box_event ?hg (N:=3) ?hd (cs:=#[.int .i8 a1_0,.int .i8 a1_1,.int .i8 a1_2,.int .i8 a1_3]) (t:=36) ?hr ?_;(case hd=>rfl);(case hg=>rfl);(case hr=>first|(go_simp;done)|(go_simp;rfl));intro gb269 hg w13 hbox hb;have n0_:=am_ (kB_ (g:=gb268) (o:=.cells #[.int .i8 a0_0,.int .i8 a0_1,.int .i8 a0_2,.int .i8 a0_3] 36 (0,0)) (by (with_reducible repeat (first|apply kN_|apply kD_|apply kA_));exact BK268.out) hb);have n1_:=am_ (bT_ (by repeat (first|(with_reducible first|exact HB.out|apply bA_|apply bN_|apply bD_|refine bS_ ?_ GE268.out)|exact HB.out)) hb);have n2_:=am_ (hbox);have n3_:=am_ ((by rw [hg];exact (bZ_ (by repeat (first|(with_reducible first|exact HB.out|apply bA_|apply bN_|apply bD_|refine bS_ ?_ GE268.out)|exact HB.out))) : w.heap.size≤gb269));have n4_:=n3_;have n5_:=am_ ((by rw [hg];exact nL_ (kL_ (g:=gb268) (o:=.cells #[.int .i8 a0_0,.int .i8 a0_1,.int .i8 a0_2,.int .i8 a0_3] 36 (0,0)) (by (with_reducible repeat (first|apply kN_|apply kD_|apply kA_));exact BK268.out)) : gb268 ≠ gb269));have n6_:=am_ ((by rw [hg];exact nG_ (kL_ (g:=gb268) (o:=.cells #[.int .i8 a0_0,.int .i8 a0_1,.int .i8 a0_2,.int .i8 a0_3] 36 (0,0)) (by (with_reducible repeat (first|apply kN_|apply kD_|apply kA_));exact BK268.out)) : gb269 ≠ gb268));clear BK268;clear HB;have BK268:=n0_;have HB:=n1_;have BK269:=n2_;have GW269:=n3_;have GE269:=n4_;have NB268_269:=n5_;have NB269_268:=n6_;clear n0_ n1_ n2_ n3_ n4_ n5_ n6_;clear hb hbox hg;have hnb14:=NB268_269.out;have hnc14:=NB269_268.out;have hcz15_0 : w13.cell? ⟨gb268,0,none⟩ = some (.int .i8 a0_0):=(kC_ BK268.out 0).trans rfl;have hcz15_1 : w13.cell? ⟨gb268,1,none⟩ = some (.int .i8 a0_1):=(kC_ BK268.out 1).trans rfl;have hcz15_2 : w13.cell? ⟨gb268,2,none⟩ = some (.int .i8 a0_2):=(kC_ BK268.out 2).trans rfl;have hcz15_3 : w13.cell? ⟨gb268,3,none⟩ = some (.int .i8 a0_3):=(kC_ BK268.out 3).trans rfl;have hfz15_0:=kF_ BK268.out 0;have hfz15_1:=kF_ BK268.out 1;have hfz15_2:=kF_ BK268.out 2;have hfz15_3:=kF_ BK268.out 3;have hcz16_0 : w13.cell? ⟨gb269,0,none⟩ = some (.int .i8 a1_0):=(kC_ BK269.out 0).trans rfl;have hcz16_1 : w13.cell? ⟨gb269,1,none⟩ = some (.int .i8 a1_1):=(kC_ BK269.out 1).trans rfl;have hcz16_2 : w13.cell? ⟨gb269,2,none⟩ = some (.int .i8 a1_2):=(kC_ BK269.out 2).trans rfl;have hcz16_3 : w13.cell? ⟨gb269,3,none⟩ = some (.int .i8 a1_3):=(kC_ BK269.out 3).trans rfl;have hfz16_0:=kF_ BK269.out 0;have hfz16_1:=kF_ BK269.out 1;have hfz16_2:=kF_ BK269.out 2;have hfz16_3:=kF_ BK269.out 3))
     go_ret
     exact ⟨by first|rfl|(simp [errW_none,errW_some] <;> rfl)|(simp [*,errW_none,errW_some] <;> rfl),by repeat (first|(with_reducible first|exact HB.out|apply bA_|apply bN_|apply bD_|refine bS_ ?_ GE268.out|refine bS_ ?_ GE269.out)|exact HB.out)⟩
   ·
    rw [if_neg c5] at H;have c5b0 : (a0_2 == a1_2) = false:=beq_eq_false_iff_ne.mpr c5;have c5b1 : (a0_2 != a1_2) = true:=bne_iff_ne.mpr c5;obtain rfl:=Option.some.inj H
    go_enter Tryd.func30,Tryd.ntmps30
    go_wp2_with (first|((with_reducible refine gate_dst (N:=2) rfl ?_);refine box_event ?hg (N:=2) ?hd (cs:=#[.int .i8 a0_0,.int .i8 a0_1,.int .i8 a0_2,.int .i8 a0_3]) (t:=36) ?hr ?_;(case hd=>rfl);(case hg=>rfl);(case hr=>first|(go_simp;done)|(go_simp;rfl));intro gb268 hg w17 hbox hb;have n0_:=am_ (bT_ (by repeat (first|(with_reducible first|exact HB.out|apply bA_|apply bN_|apply bD_)|exact HB.out)) hb);have n1_:=am_ (hbox);have n2_:=am_ ((by rw [hg];exact (bZ_ (by repeat (first|(with_reducible first|exact HB.out|apply bA_|apply bN_|apply bD_)|exact HB.out))) : w.heap.size≤gb268));have n3_:=n2_;clear HB;have HB:=n0_;have BK268:=n1_;have GW268:=n2_;have GE268:=n3_;clear n0_ n1_ n2_ n3_;clear hb hbox hg)|((with_reducible refine gate_dst (N:=3) rfl ?_);refine box_event ?hg (N:=3) ?hd (cs:=#[.int .i8 a1_0,.int .i8 a1_1,.int .i8 a1_2,.int .i8 a1_3]) (t:=36) ?hr ?_;(case hd=>rfl);(case hg=>rfl);(case hr=>first|(go_simp;done)|(go_simp;rfl));intro gb269 hg w18 hbox hb;have n0_:=am_ (kB_ (g:=gb268) (o:=.cells #[.int .i8 a0_0,.int .i8 a0_1,.int .i8 a0_2,.int .i8 a0_3] 36 (0,0)) (by (with_reducible repeat (first|apply kN_|apply kD_|apply kA_));exact BK268.out) hb);have n1_:=am_ (bT_ (by repeat (first|(with_reducible first|exact HB.out|apply bA_|apply bN_|apply bD_|refine bS_ ?_ GE268.out)|exact HB.out)) hb);have n2_:=am_ (hbox);have n3_:=am_ ((by rw [hg];exact (bZ_ (by repeat (first|(with_reducible first|exact HB.out|apply bA_|apply bN_|apply bD_|refine bS_ ?_ GE268.out)|exact HB.out))) : w.heap.size≤gb269));have n4_:=n3_;have n5_:=am_ ((by rw [hg];exact nL_ (kL_ (g:=gb268) (o:=.cells #[.int .i8 a0_0,.int .i8 a0_1,.int .i8 a0_2,.int .i8 a0_3] 36 (0,0)) (by (with_reducible repeat (first|apply kN_|apply kD_|apply kA_));exact BK268.out)) : gb268 ≠ gb269));have n6_:=am_ ((by rw [hg];exact nG_ (kL_ (g:=gb268) (o:=.cells #[.int .i8 a0_0,.int .i8 a0_1,.int .i8 a0_2,.int .i8 a0_3] 36 (0,0)) (by (with_reducible repeat (first|apply kN_|apply kD_|apply kA_));exact BK268.out)) : gb269 ≠ gb268));clear BK268;clear HB;have BK268:=n0_;have HB:=n1_;have BK269:=n2_;have GW269:=n3_;have GE269:=n4_;have NB268_269:=n5_;have NB269_268:=n6_;clear n0_ n1_ n2_ n3_ n4_ n5_ n6_;clear hb hbox hg;have hnb19:=NB268_269.out;have hnc19:=NB269_268.out;have hcz20_0 : w18.cell? ⟨gb268,0,none⟩ = some (.int .i8 a0_0):=(kC_ BK268.out 0).trans rfl;have hcz20_1 : w18.cell? ⟨gb268,1,none⟩ = some (.int .i8 a0_1):=(kC_ BK268.out 1).trans rfl;have hcz20_2 : w18.cell? ⟨gb268,2,none⟩ = some (.int .i8 a0_2):=(kC_ BK268.out 2).trans rfl;have hcz20_3 : w18.cell? ⟨gb268,3,none⟩ = some (.int .i8 a0_3):=(kC_ BK268.out 3).trans rfl;have hfz20_0:=kF_ BK268.out 0;have hfz20_1:=kF_ BK268.out 1;have hfz20_2:=kF_ BK268.out 2;have hfz20_3:=kF_ BK268.out 3;have hcz21_0 : w18.cell? ⟨gb269,0,none⟩ = some (.int .i8 a1_0):=(kC_ BK269.out 0).trans rfl;have hcz21_1 : w18.cell? ⟨gb269,1,none⟩ = some (.int .i8 a1_1):=(kC_ BK269.out 1).trans rfl;have hcz21_2 : w18.cell? ⟨gb269,2,none⟩ = some (.int .i8 a1_2):=(kC_ BK269.out 2).trans rfl;have hcz21_3 : w18.cell? ⟨gb269,3,none⟩ = some (.int .i8 a1_3):=(kC_ BK269.out 3).trans rfl;have hfz21_0:=kF_ BK269.out 0;have hfz21_1:=kF_ BK269.out 1;have hfz21_2:=kF_ BK269.out 2;have hfz21_3:=kF_ BK269.out 3))
    go_ret
    exact ⟨by first|rfl|(simp [errW_none,errW_some] <;> rfl)|(simp [*,errW_none,errW_some] <;> rfl),by repeat (first|(with_reducible first|exact HB.out|apply bA_|apply bN_|apply bD_|refine bS_ ?_ GE268.out|refine bS_ ?_ GE269.out)|exact HB.out)⟩
  ·
   rw [if_neg c4] at H;have c4b0 : (a0_1 == a1_1) = false:=beq_eq_false_iff_ne.mpr c4;have c4b1 : (a0_1 != a1_1) = true:=bne_iff_ne.mpr c4;obtain rfl:=Option.some.inj H
   go_enter Tryd.func30,Tryd.ntmps30
   go_wp2_with (first|((with_reducible refine gate_dst (N:=2) rfl ?_);refine box_event ?hg (N:=2) ?hd (cs:=#[.int .i8 a0_0,.int .i8 a0_1,.int .i8 a0_2,.int .i8 a0_3]) (t:=36) ?hr ?_;(case hd=>rfl);(case hg=>rfl);(case hr=>first|(go_simp;done)|(go_simp;rfl));intro gb268 hg w22 hbox hb;have n0_:=am_ (bT_ (by repeat (first|(with_reducible first|exact HB.out|apply bA_|apply bN_|apply bD_)|exact HB.out)) hb);have n1_:=am_ (hbox);have n2_:=am_ ((by rw [hg];exact (bZ_ (by repeat (first|(with_reducible first|exact HB.out|apply bA_|apply bN_|apply bD_)|exact HB.out))) : w.heap.size≤gb268));have n3_:=n2_;clear HB;have HB:=n0_;have BK268:=n1_;have GW268:=n2_;have GE268:=n3_;clear n0_ n1_ n2_ n3_;clear hb hbox hg)|((with_reducible refine gate_dst (N:=3) rfl ?_);refine box_event ?hg (N:=3) ?hd (cs:=#[.int .i8 a1_0,.int .i8 a1_1,.int .i8 a1_2,.int .i8 a1_3]) (t:=36) ?hr ?_;(case hd=>rfl);(case hg=>rfl);(case hr=>first|(go_simp;done)|(go_simp;rfl));intro gb269 hg w23 hbox hb;have n0_:=am_ (kB_ (g:=gb268) (o:=.cells #[.int .i8 a0_0,.int .i8 a0_1,.int .i8 a0_2,.int .i8 a0_3] 36 (0,0)) (by (with_reducible repeat (first|apply kN_|apply kD_|apply kA_));exact BK268.out) hb);have n1_:=am_ (bT_ (by repeat (first|(with_reducible first|exact HB.out|apply bA_|apply bN_|apply bD_|refine bS_ ?_ GE268.out)|exact HB.out)) hb);have n2_:=am_ (hbox);have n3_:=am_ ((by rw [hg];exact (bZ_ (by repeat (first|(with_reducible first|exact HB.out|apply bA_|apply bN_|apply bD_|refine bS_ ?_ GE268.out)|exact HB.out))) : w.heap.size≤gb269));have n4_:=n3_;have n5_:=am_ ((by rw [hg];exact nL_ (kL_ (g:=gb268) (o:=.cells #[.int .i8 a0_0,.int .i8 a0_1,.int .i8 a0_2,.int .i8 a0_3] 36 (0,0)) (by (with_reducible repeat (first|apply kN_|apply kD_|apply kA_));exact BK268.out)) : gb268 ≠ gb269));have n6_:=am_ ((by rw [hg];exact nG_ (kL_ (g:=gb268) (o:=.cells #[.int .i8 a0_0,.int .i8 a0_1,.int .i8 a0_2,.int .i8 a0_3] 36 (0,0)) (by (with_reducible repeat (first|apply kN_|apply kD_|apply kA_));exact BK268.out)) : gb269 ≠ gb268));clear BK268;clear HB;have BK268:=n0_;have HB:=n1_;have BK269:=n2_;have GW269:=n3_;have GE269:=n4_;have NB268_269:=n5_;have NB269_268:=n6_;clear n0_ n1_ n2_ n3_ n4_ n5_ n6_;clear hb hbox hg;have hnb24:=NB268_269.out;have hnc24:=NB269_268.out;have hcz25_0 : w23.cell? ⟨gb268,0,none⟩ = some (.int .i8 a0_0):=(kC_ BK268.out 0).trans rfl;have hcz25_1 : w23.cell? ⟨gb268,1,none⟩ = some (.int .i8 a0_1):=(kC_ BK268.out 1).trans rfl;have hcz25_2 : w23.cell? ⟨gb268,2,none⟩ = some (.int .i8 a0_2):=(kC_ BK268.out 2).trans rfl;have hcz25_3 : w23.cell? ⟨gb268,3,none⟩ = some (.int .i8 a0_3):=(kC_ BK268.out 3).trans rfl;have hfz25_0:=kF_ BK268.out 0;have hfz25_1:=kF_ BK268.out 1;have hfz25_2:=kF_ BK268.out 2;have hfz25_3:=kF_ BK268.out 3;have hcz26_0 : w23.cell? ⟨gb269,0,none⟩ = some (.int .i8 a1_0):=(kC_ BK269.out 0).trans rfl;have hcz26_1 : w23.cell? ⟨gb269,1,none⟩ = some (.int .i8 a1_1):=(kC_ BK269.out 1).trans rfl;have hcz26_2 : w23.cell? ⟨gb269,2,none⟩ = some (.int .i8 a1_2):=(kC_ BK269.out 2).trans rfl;have hcz26_3 : w23.cell? ⟨gb269,3,none⟩ = some (.int .i8 a1_3):=(kC_ BK269.out 3).trans rfl;have hfz26_0:=kF_ BK269.out 0;have hfz26_1:=kF_ BK269.out 1;have hfz26_2:=kF_ BK269.out 2;have hfz26_3:=kF_ BK269.out 3))
   go_ret
   exact ⟨by first|rfl|(simp [errW_none,errW_some] <;> rfl)|(simp [*,errW_none,errW_some] <;> rfl),by repeat (first|(with_reducible first|exact HB.out|apply bA_|apply bN_|apply bD_|refine bS_ ?_ GE268.out|refine bS_ ?_ GE269.out)|exact HB.out)⟩
 ·
  rw [if_neg c3] at H;have c3b0 : (a0_0 == a1_0) = false:=beq_eq_false_iff_ne.mpr c3;have c3b1 : (a0_0 != a1_0) = true:=bne_iff_ne.mpr c3;obtain rfl:=Option.some.inj H
  go_enter Tryd.func30,Tryd.ntmps30
  go_wp2_with (first|((with_reducible refine gate_dst (N:=2) rfl ?_);refine box_event ?hg (N:=2) ?hd (cs:=#[.int .i8 a0_0,.int .i8 a0_1,.int .i8 a0_2,.int .i8 a0_3]) (t:=36) ?hr ?_;(case hd=>rfl);(case hg=>rfl);(case hr=>first|(go_simp;done)|(go_simp;rfl));intro gb268 hg w27 hbox hb;have n0_:=am_ (bT_ (by repeat (first|(with_reducible first|exact HB.out|apply bA_|apply bN_|apply bD_)|exact HB.out)) hb);have n1_:=am_ (hbox);have n2_:=am_ ((by rw [hg];exact (bZ_ (by repeat (first|(with_reducible first|exact HB.out|apply bA_|apply bN_|apply bD_)|exact HB.out))) : w.heap.size≤gb268));have n3_:=n2_;clear HB;have HB:=n0_;have BK268:=n1_;have GW268:=n2_;have GE268:=n3_;clear n0_ n1_ n2_ n3_;clear hb hbox hg)|((with_reducible refine gate_dst (N:=3) rfl ?_);refine box_event ?hg (N:=3) ?hd (cs:=#[.int .i8 a1_0,.int .i8 a1_1,.int .i8 a1_2,.int .i8 a1_3]) (t:=36) ?hr ?_;(case hd=>rfl);(case hg=>rfl);(case hr=>first|(go_simp;done)|(go_simp;rfl));intro gb269 hg w28 hbox hb;have n0_:=am_ (kB_ (g:=gb268) (o:=.cells #[.int .i8 a0_0,.int .i8 a0_1,.int .i8 a0_2,.int .i8 a0_3] 36 (0,0)) (by (with_reducible repeat (first|apply kN_|apply kD_|apply kA_));exact BK268.out) hb);have n1_:=am_ (bT_ (by repeat (first|(with_reducible first|exact HB.out|apply bA_|apply bN_|apply bD_|refine bS_ ?_ GE268.out)|exact HB.out)) hb);have n2_:=am_ (hbox);have n3_:=am_ ((by rw [hg];exact (bZ_ (by repeat (first|(with_reducible first|exact HB.out|apply bA_|apply bN_|apply bD_|refine bS_ ?_ GE268.out)|exact HB.out))) : w.heap.size≤gb269));have n4_:=n3_;have n5_:=am_ ((by rw [hg];exact nL_ (kL_ (g:=gb268) (o:=.cells #[.int .i8 a0_0,.int .i8 a0_1,.int .i8 a0_2,.int .i8 a0_3] 36 (0,0)) (by (with_reducible repeat (first|apply kN_|apply kD_|apply kA_));exact BK268.out)) : gb268 ≠ gb269));have n6_:=am_ ((by rw [hg];exact nG_ (kL_ (g:=gb268) (o:=.cells #[.int .i8 a0_0,.int .i8 a0_1,.int .i8 a0_2,.int .i8 a0_3] 36 (0,0)) (by (with_reducible repeat (first|apply kN_|apply kD_|apply kA_));exact BK268.out)) : gb269 ≠ gb268));clear BK268;clear HB;have BK268:=n0_;have HB:=n1_;have BK269:=n2_;have GW269:=n3_;have GE269:=n4_;have NB268_269:=n5_;have NB269_268:=n6_;clear n0_ n1_ n2_ n3_ n4_ n5_ n6_;clear hb hbox hg;have hnb29:=NB268_269.out;have hnc29:=NB269_268.out;have hcz30_0 : w28.cell? ⟨gb268,0,none⟩ = some (.int .i8 a0_0):=(kC_ BK268.out 0).trans rfl;have hcz30_1 : w28.cell? ⟨gb268,1,none⟩ = some (.int .i8 a0_1):=(kC_ BK268.out 1).trans rfl;have hcz30_2 : w28.cell? ⟨gb268,2,none⟩ = some (.int .i8 a0_2):=(kC_ BK268.out 2).trans rfl;have hcz30_3 : w28.cell? ⟨gb268,3,none⟩ = some (.int .i8 a0_3):=(kC_ BK268.out 3).trans rfl;have hfz30_0:=kF_ BK268.out 0;have hfz30_1:=kF_ BK268.out 1;have hfz30_2:=kF_ BK268.out 2;have hfz30_3:=kF_ BK268.out 3;have hcz31_0 : w28.cell? ⟨gb269,0,none⟩ = some (.int .i8 a1_0):=(kC_ BK269.out 0).trans rfl;have hcz31_1 : w28.cell? ⟨gb269,1,none⟩ = some (.int .i8 a1_1):=(kC_ BK269.out 1).trans rfl;have hcz31_2 : w28.cell? ⟨gb269,2,none⟩ = some (.int .i8 a1_2):=(kC_ BK269.out 2).trans rfl;have hcz31_3 : w28.cell? ⟨gb269,3,none⟩ = some (.int .i8 a1_3):=(kC_ BK269.out 3).trans rfl;have hfz31_0:=kF_ BK269.out 0;have hfz31_1:=kF_ BK269.out 1;have hfz31_2:=kF_ BK269.out 2;have hfz31_3:=kF_ BK269.out 3))
  go_ret
  exact ⟨by first|rfl|(simp [errW_none,errW_some] <;> rfl)|(simp [*,errW_none,errW_some] <;> rfl),by repeat (first|(with_reducible first|exact HB.out|apply bA_|apply bN_|apply bD_|refine bS_ ?_ GE268.out|refine bS_ ?_ GE269.out)|exact HB.out)⟩
def laws_eqSlabS.l0 : Nat → List (S36) → List (S36) → Int → Option (Bool)
 | 0,_,_,_=>none
 | k + 1,x0,x1,x5=>if x5 < (x0.length : Int) then (if 0≤x5 then (if x5 < (x1.length : Int) then ((laws_eqSlab.f ((rd_T36 x0 x5).f0) ((rd_T36 x0 x5).f1) ((rd_T36 x0 x5).f2) ((rd_T36 x0 x5).f3) ((rd_T36 x1 x5).f0) ((rd_T36 x1 x5).f1) ((rd_T36 x1 x5).f2) ((rd_T36 x1 x5).f3)).bind fun t272=>(if t272 = true then (laws_eqSlabS.l0 k x0 x1 (wrap64 (x5 + 1))) else (some false))) else (none)) else (none)) else (some true)
def laws_eqSlabS.f (k : Nat) (l0 : List (S36)) (l1 : List (S36)) : Option (Bool) := if (l0.length : Int) = (l1.length : Int) then (laws_eqSlabS.l0 k l0 l1 0) else (some false)
theorem laws_eqSlabS.mono_l : ∀ k, (∀ y0 y1 y2, LeO (laws_eqSlabS.l0 k y0 y1 y2) (laws_eqSlabS.l0 (k + 1) y0 y1 y2))
 | 0=>fun _ _ _ r h=>by simp [laws_eqSlabS.l0] at h
 | k + 1=>by
  have ih0:=laws_eqSlabS.mono_l k
  ·
   intro y0 y1 y2
   unfold laws_eqSlabS.l0
   repeat' first
   | (with_reducible exact ih0 _ _ _)
   | (with_reducible exact LeO.refl _)
   | (with_reducible exact LeO.none _)
   | (with_reducible refine LeO.ite ?_ ?_)
   | (with_reducible refine LeO.bind ?_ (fun _=>?_))
   | exact ih0 _ _ _
   | exact LeO.none _
   | refine LeO.ite ?_ ?_
   | refine LeO.bind ?_ (fun _=>?_)
theorem laws_eqSlabS.mono : ∀ a0 a1 k, LeO (laws_eqSlabS.f k a0 a1) (laws_eqSlabS.f (k + 1) a0 a1) := by
 intro a0 a1 k;have ih0:=laws_eqSlabS.mono_l k
 unfold laws_eqSlabS.f
 repeat' first
   | (with_reducible exact ih0 _ _ _)
   | (with_reducible exact LeO.refl _)
   | (with_reducible exact LeO.none _)
   | (with_reducible refine LeO.ite ?_ ?_)
   | (with_reducible refine LeO.bind ?_ (fun _=>?_))
   | exact ih0 _ _ _
   | exact LeO.none _
   | refine LeO.ite ?_ ?_
   | refine LeO.bind ?_ (fun _=>?_)
def laws_eqSlabS.T6 : Bool × List (List Nat × List Nat) := (true, [([], []), ([], []), ([0, 1], [0, 1]), ([2], [2]), ([], []), ([], []), ([4, 5], [4, 5]), ([6], [6]), ([3, 7], [3, 7]), ([8], [8])])
def laws_eqSlabS.B6 : List Nat := [0, 0, 3, 7, 0, 0, 48, 112, 255, 511]
theorem laws_eqSlabS.tab6 : rtab .any (opsOf Tryd.f20 6) = laws_eqSlabS.T6 := by kernel_rfl
theorem laws_eqSlabS.bits6 : waitsOk laws_eqSlabS.T6.2 laws_eqSlabS.B6 = true := by kernel_rfl
set_option maxHeartbeats 8000000 in
set_option maxRecDepth 100000 in
theorem laws_eqSlabS.calls (k : Nat) (A0 : Option Addr) (c0 : Nat) (l0 : List (S36)) (A1 : Option Addr) (c1 : Nat) (l1 : List (S36)) (r : Bool) (w : World) (hr0 : Kd.C k36 w A0 l0.length l0) (hc0 : l0.length ≤ c0) (hr1 : Kd.C k36 w A1 l1.length l1) (hc1 : l1.length ≤ c1) (h : laws_eqSlabS.f k l0 l1 = some r) :
  Calls Tryd.prog 20 #[.slice A0 l0.length c0,.slice A1 l1.length c1] w fun e w'=>e = .returned (.bool r) ∧ Below w.heap.size w w':=by
 have hu36:=Tryd.underlying36;have HR0:=am_ hr0;have HC0:=am_ hc0;clear hr0 hc0;have HR1:=am_ hr1;have HC1:=am_ hc1;clear hr1 hc1;have HB:=am_ (Below.refl w.heap.size w);have H : (if (l0.length : Int) = (l1.length : Int) then (laws_eqSlabS.l0 k l0 l1 0) else (some false)) = some r:=h;clear h
 by_cases c3 : (l0.length : Int) = (l1.length : Int)
 ·
  rw [if_pos c3] at H;have c3b0 : ((l0.length : Int) == (l1.length : Int)) = true:=beq_iff_eq.mpr c3;have c3b1 : ((l0.length : Int) != (l1.length : Int)) = false:=bne_eq_false_iff_eq.mpr c3;have c3b2 : (l0.length == l1.length) = true:=by first|simpa using c3|(simp at c3 ⊢;omega)
  clear c3;have H':=am_ H;clear H
  go_enter Tryd.func20,Tryd.ntmps20
  go_wp2
  go_loopg [5] k (fun kq v5 w'=>∃ (x5_1 : Int),v5 = .int .i64 x5_1 ∧ Aside0 (laws_eqSlabS.l0 kq l0 l1 x5_1 = some r) ∧ Aside0 (kq≤k) ∧ Aside0 (Below w.heap.size w w'))
  case atStart=>exact ⟨(0),(by first|rfl|(simp;done)|(simp [*];done)),H',⟨Nat.le_refl _⟩,⟨by repeat (first|(with_reducible first|exact HB.out|apply bA_|apply bN_|apply bD_)|exact HB.out)⟩⟩
  case round =>
   clear H';(try clear c1);(try clear c2);(try clear p2);(try clear c3);(try clear c3b0);(try clear c3b1);(try clear c3b2);obtain ⟨x5_1,rfl,HA,HK1,HB⟩:=hrel
   cases gk with
   | zero=>exact absurd HA.out (by simp [laws_eqSlabS.l0])
   | succ k1 =>
    have H:=HA.out;clear HA;simp only [laws_eqSlabS.l0] at H
    by_cases c4 : x5_1 < (l0.length : Int)
    ·
     rw [if_pos c4] at H;have c4b0 : decide (x5_1 < (l0.length : Int)) = true:=decide_eq_true c4;clear c4
     by_cases c5 : 0≤x5_1
     ·
      rw [if_pos c5] at H;have c5b0 : decide (0≤x5_1) = true:=decide_eq_true c5;clear c5
      by_cases c6 : x5_1 < (l1.length : Int)
      ·
       rw [if_pos c6] at H;have c6b0 : decide (x5_1 < (l1.length : Int)) = true:=decide_eq_true c6;clear c6;replace H:=Option.bind_eq_some_iff.mp H;obtain ⟨t272,A70,H⟩:=H;replace H : (if t272 = true then (laws_eqSlabS.l0 k1 l0 l1 (wrap64 (x5_1 + 1))) else (some false)) = some r:=H;have A7:=am_ A70;clear A70
       by_cases c8 : t272 = true
       ·
        subst c8;have H1 : (laws_eqSlabS.l0 k1 l0 l1 (wrap64 (x5_1 + 1))) = some r:=by rw [if_pos rfl] at H;exact H
        clear H;have H:=H1;clear H1;have H':=am_ H;clear H
        try go_wp2
        have n0_:=am_ (bD_ HB.out);clear HB;have HB:=n0_;clear n0_;have p270 : 0≤(x5_1 : Int):=od_ (by first|(with_reducible assumption)|assumption);have q270 : x5_1 < (l0.length : Int):=od_ (by first|(with_reducible assumption)|assumption);obtain ⟨ad270,e270,hx270_0,hx270_1,hx270_2,hx270_3⟩:=at_T36 HR0.out x5_1 p270 q270;have hw270_3:=hx270_3;have hw270_2:=hx270_2;have hw270_1:=hx270_1;have hw270_0:=hx270_0
        cases e270
        replace hx270_0:=(HB.out.cell (bl_ w _ hx270_0)).trans hx270_0;replace hx270_1:=(HB.out.cell (bl_ w _ hx270_1)).trans hx270_1;replace hx270_2:=(HB.out.cell (bl_ w _ hx270_2)).trans hx270_2;replace hx270_3:=(HB.out.cell (bl_ w _ hx270_3)).trans hx270_3;replace p270:=eq_true p270;replace q270:=eq_true q270;have p271 : 0≤(x5_1 : Int):=od_ (by first|(with_reducible assumption)|assumption);have q271 : x5_1 < (l1.length : Int):=od_ (by first|(with_reducible assumption)|assumption);obtain ⟨ad271,e271,hx271_0,hx271_1,hx271_2,hx271_3⟩:=at_T36 HR1.out x5_1 p271 q271;have hw271_3:=hx271_3;have hw271_2:=hx271_2;have hw271_1:=hx271_1;have hw271_0:=hx271_0
        cases e271
        replace hx271_0:=(HB.out.cell (bl_ w _ hx271_0)).trans hx271_0;replace hx271_1:=(HB.out.cell (bl_ w _ hx271_1)).trans hx271_1;replace hx271_2:=(HB.out.cell (bl_ w _ hx271_2)).trans hx271_2;replace hx271_3:=(HB.out.cell (bl_ w _ hx271_3)).trans hx271_3;replace p271:=eq_true p271;replace q271:=eq_true q271;refine start_ (n:=10) (S:=fun w'=>w'.cell? (ad270.add ((x5_1).toNat * 4)) = some (.int .i8 ((rd_T36 l0 x5_1).f0)) ∧ w'.cell? ⟨(ad270.add ((x5_1).toNat * 4)).block,(ad270.add ((x5_1).toNat * 4)).off + 1,none⟩ = some (.int .i8 ((rd_T36 l0 x5_1).f1)) ∧ w'.cell? ⟨(ad270.add ((x5_1).toNat * 4)).block,(ad270.add ((x5_1).toNat * 4)).off + 2,none⟩ = some (.int .i8 ((rd_T36 l0 x5_1).f2)) ∧ w'.cell? ⟨(ad270.add ((x5_1).toNat * 4)).block,(ad270.add ((x5_1).toNat * 4)).off + 3,none⟩ = some (.int .i8 ((rd_T36 l0 x5_1).f3)) ∧ w'.cell? (ad271.add ((x5_1).toNat * 4)) = some (.int .i8 ((rd_T36 l1 x5_1).f0)) ∧ w'.cell? ⟨(ad271.add ((x5_1).toNat * 4)).block,(ad271.add ((x5_1).toNat * 4)).off + 1,none⟩ = some (.int .i8 ((rd_T36 l1 x5_1).f1)) ∧ w'.cell? ⟨(ad271.add ((x5_1).toNat * 4)).block,(ad271.add ((x5_1).toNat * 4)).off + 2,none⟩ = some (.int .i8 ((rd_T36 l1 x5_1).f2)) ∧ w'.cell? ⟨(ad271.add ((x5_1).toNat * 4)).block,(ad271.add ((x5_1).toNat * 4)).off + 3,none⟩ = some (.int .i8 ((rd_T36 l1 x5_1).f3))) (ds:=[]) (mB_ 10 0) (by kernel_rfl) rfl rfl ⟨((HB.out.cell (bl_ w _ hw270_0)).trans hw270_0),((HB.out.cell (bl_ w _ hw270_1)).trans hw270_1),((HB.out.cell (bl_ w _ hw270_2)).trans hw270_2),((HB.out.cell (bl_ w _ hw270_3)).trans hw270_3),((HB.out.cell (bl_ w _ hw271_0)).trans hw271_0),((HB.out.cell (bl_ w _ hw271_1)).trans hw271_1),((HB.out.cell (bl_ w _ hw271_2)).trans hw271_2),((HB.out.cell (bl_ w _ hw271_3)).trans hw271_3)⟩ (fun hHeld=>?_);refine with_tabW laws_eqSlabS.tab6 laws_eqSlabS.bits6 (fun HT_ HW_=>?_);generalize wr.drew = w9 at HB hx270_0 hx270_1 hx270_2 hx270_3 hx271_0 hx271_1 hx271_2 hx271_3 hHeld ⊢;refine pure_ (i:=0) (N:=some 17) (v:=?_) (a':=?_) (mB_ 10 1) rfl rfl (any_of HT_.out (by kernel_rfl)) (fun _ _ _ h=>h) (Or.inl ⟨by rfl,?_⟩) ?_ ?_;rotate_left
        ·
         intro w'
         go_simp
         with_reducible rfl
        rotate_left
        ·
         simp only [Act.put,z1_,z2_,z3_,i64_w,i32_w]
         rfl
        refine pure_ (i:=1) (N:=some 18) (v:=?_) (a':=?_) (mB_ 10 3) rfl rfl (any_of HT_.out (by kernel_rfl)) (fun _ _ _ h=>h) (Or.inl ⟨by rfl,?_⟩) ?_ ?_;rotate_left
        ·
         intro w'
         go_simp
         with_reducible rfl
        rotate_left
        ·
         simp only [Act.put,z1_,z2_,z3_,i64_w,i32_w]
         rfl
        refine pure_ (i:=2) (N:=some 19) (v:=?_) (a':=?_) (mB_ 10 7) rfl rfl (any_of HT_.out (by kernel_rfl)) (fun _ _ _ h=>h) (Or.inl ⟨by rfl,?_⟩) ?_ ?_;rotate_left
        ·
         intro w'
         go_simp
         with_reducible rfl
        rotate_left
        ·
         simp only [Act.put,z1_,z2_,z3_,i64_w,i32_w]
         rfl
        refine pure_ (i:=4) (N:=some 21) (v:=?_) (a':=?_) (mB_ 10 23) rfl rfl (any_of HT_.out (by kernel_rfl)) (fun _ _ _ h=>h) (Or.inl ⟨by rfl,?_⟩) ?_ ?_;rotate_left
        ·
         intro w'
         go_simp
         with_reducible rfl
        rotate_left
        ·
         simp only [Act.put,z1_,z2_,z3_,i64_w,i32_w]
         rfl
        refine pure_ (i:=5) (N:=some 22) (v:=?_) (a':=?_) (mB_ 10 55) rfl rfl (any_of HT_.out (by kernel_rfl)) (fun _ _ _ h=>h) (Or.inl ⟨by rfl,?_⟩) ?_ ?_;rotate_left
        ·
         intro w'
         go_simp
         with_reducible rfl
        rotate_left
        ·
         simp only [Act.put,z1_,z2_,z3_,i64_w,i32_w]
         rfl
        refine pure_ (i:=6) (N:=some 23) (v:=?_) (a':=?_) (mB_ 10 119) rfl rfl (any_of HT_.out (by kernel_rfl)) (fun _ _ _ h=>h) (Or.inl ⟨by rfl,?_⟩) ?_ ?_;rotate_left
        ·
         intro w'
         go_simp
         with_reducible rfl
        rotate_left
        ·
         simp only [Act.put,z1_,z2_,z3_,i64_w,i32_w]
         rfl
        refine take_ (i:=3) (N:=some 20) (v:=?_) (a':=?_) (mB_ 10 127) rfl rfl (take_ofW HT_.out HW_.out (by kernel_rfl)) (fun _ _ _ h=>h) (Or.inl ⟨by rfl,?_⟩) hHeld ?_ ?_;rotate_left
        ·
         rintro w' ⟨s0,s1,s2,s3,s4,s5,s6,s7⟩
         go_simp
         with_reducible rfl
        rotate_left
        ·
         simp only [Act.put,z1_,z2_,z3_,i64_w,i32_w]
         rfl
        refine take_ (i:=7) (N:=some 24) (v:=?_) (a':=?_) (mB_ 10 255) rfl rfl (take_ofW HT_.out HW_.out (by kernel_rfl)) (fun _ _ _ h=>h) (Or.inl ⟨by rfl,?_⟩) hHeld ?_ ?_;rotate_left
        ·
         rintro w' ⟨s0,s1,s2,s3,s4,s5,s6,s7⟩
         go_simp
         with_reducible rfl
        rotate_left
        ·
         simp only [Act.put,z1_,z2_,z3_,i64_w,i32_w]
         rfl
        refine one_ (i:=8) (N:=some 25) (mB_ 10 511) rfl rfl (one_of HT_.out (by kernel_rfl)) (by decide) (fun K hK=>?_);refine goes_ Tryd.func30 (by kernel_rfl) rfl #[.agg #[.int .i8 ((rd_T36 l0 x5_1).f0),.int .i8 ((rd_T36 l0 x5_1).f1),.int .i8 ((rd_T36 l0 x5_1).f2),.int .i8 ((rd_T36 l0 x5_1).f3)],.agg #[.int .i8 ((rd_T36 l1 x5_1).f0),.int .i8 ((rd_T36 l1 x5_1).f1),.int .i8 ((rd_T36 l1 x5_1).f2),.int .i8 ((rd_T36 l1 x5_1).f3)]] (by rfl) rfl rfl (by (try simp only [List.map_toArray,List.map_cons,List.map_nil]);first|done|rfl|(simp only [List.length_drop,List.length_take];rfl)) ?_
        with_reducible refine (laws_eqSlab.calls ((rd_T36 l0 x5_1).f0) ((rd_T36 l0 x5_1).f1) ((rd_T36 l0 x5_1).f2) ((rd_T36 l0 x5_1).f3) ((rd_T36 l1 x5_1).f0) ((rd_T36 l1 x5_1).f1) ((rd_T36 l1 x5_1).f2) ((rd_T36 l1 x5_1).f3) true _ A7.out).mono ?_
        rintro e w10 ⟨rfl,hb⟩;refine ⟨_,rfl,?_⟩;have n0_:=am_ (bT_ (by repeat (first|(with_reducible first|exact HB.out|apply bA_|apply bN_|apply bD_)|exact HB.out)) hb);clear HB;have HB:=n0_;clear n0_;(try clear hb);(try clear hb2);(try clear hk);(try clear hi);refine hK.out _ _ ⟨((HB.out.cell (bl_ w _ hw270_0)).trans hw270_0),((HB.out.cell (bl_ w _ hw270_1)).trans hw270_1),((HB.out.cell (bl_ w _ hw270_2)).trans hw270_2),((HB.out.cell (bl_ w _ hw270_3)).trans hw270_3),((HB.out.cell (bl_ w _ hw271_0)).trans hw271_0),((HB.out.cell (bl_ w _ hw271_1)).trans hw271_1),((HB.out.cell (bl_ w _ hw271_2)).trans hw271_2),((HB.out.cell (bl_ w _ hw271_3)).trans hw271_3)⟩ (fun hHeld=>?_);clear hK K;refine norm_ (a':=?_) ?_ ?_;rotate_left
        ·
         show Act.put _ (some 25) _ = _
         simp only [Act.put,z1_,z2_,z3_,i64_w,i32_w]
         rfl
        refine pure_ (i:=9) (N:=some 26) (v:=?_) (a':=?_) (mB_ 10 1023) rfl rfl (any_of HT_.out (by kernel_rfl)) (fun _ _ _ h=>h) (Or.inl ⟨by rfl,?_⟩) ?_ ?_;rotate_left
        ·
         intro w'
         go_simp
         with_reducible rfl
        rotate_left
        ·
         simp only [Act.put,z1_,z2_,z3_,i64_w,i32_w]
         rfl
        refine done_ (done_of HT_.out (by kernel_rfl)) ?_
        try go_wp2
        go_roundg k1
        case measure=>have:=HK1.out;omega
        case rel=>exact ⟨(wrap64 (x5_1 + 1)),(by first|rfl|(simp;done)|(simp [*];done)),H',⟨by have:=HK1.out;omega⟩,⟨by repeat (first|(with_reducible first|exact HB.out|apply bA_|apply bN_|apply bD_)|exact HB.out)⟩⟩
       ·
        replace c8:=Bool.eq_false_iff.mpr c8;subst c8;have H1 : (some false) = some r:=by rw [if_neg (show ¬ (false = true) by decide)] at H;exact H
        clear H;have H:=H1;clear H1;obtain rfl:=Option.some.inj H
        try go_wp2
        have n0_:=am_ (bD_ HB.out);clear HB;have HB:=n0_;clear n0_;have p270 : 0≤(x5_1 : Int):=od_ (by first|(with_reducible assumption)|assumption);have q270 : x5_1 < (l0.length : Int):=od_ (by first|(with_reducible assumption)|assumption);obtain ⟨ad270,e270,hx270_0,hx270_1,hx270_2,hx270_3⟩:=at_T36 HR0.out x5_1 p270 q270;have hw270_3:=hx270_3;have hw270_2:=hx270_2;have hw270_1:=hx270_1;have hw270_0:=hx270_0
        cases e270
        replace hx270_0:=(HB.out.cell (bl_ w _ hx270_0)).trans hx270_0;replace hx270_1:=(HB.out.cell (bl_ w _ hx270_1)).trans hx270_1;replace hx270_2:=(HB.out.cell (bl_ w _ hx270_2)).trans hx270_2;replace hx270_3:=(HB.out.cell (bl_ w _ hx270_3)).trans hx270_3;replace p270:=eq_true p270;replace q270:=eq_true q270;have p271 : 0≤(x5_1 : Int):=od_ (by first|(with_reducible assumption)|assumption);have q271 : x5_1 < (l1.length : Int):=od_ (by first|(with_reducible assumption)|assumption);obtain ⟨ad271,e271,hx271_0,hx271_1,hx271_2,hx271_3⟩:=at_T36 HR1.out x5_1 p271 q271;have hw271_3:=hx271_3;have hw271_2:=hx271_2;have hw271_1:=hx271_1;have hw271_0:=hx271_0
        cases e271
        replace hx271_0:=(HB.out.cell (bl_ w _ hx271_0)).trans hx271_0;replace hx271_1:=(HB.out.cell (bl_ w _ hx271_1)).trans hx271_1;replace hx271_2:=(HB.out.cell (bl_ w _ hx271_2)).trans hx271_2;replace hx271_3:=(HB.out.cell (bl_ w _ hx271_3)).trans hx271_3;replace p271:=eq_true p271;replace q271:=eq_true q271;refine start_ (n:=10) (S:=fun w'=>w'.cell? (ad270.add ((x5_1).toNat * 4)) = some (.int .i8 ((rd_T36 l0 x5_1).f0)) ∧ w'.cell? ⟨(ad270.add ((x5_1).toNat * 4)).block,(ad270.add ((x5_1).toNat * 4)).off + 1,none⟩ = some (.int .i8 ((rd_T36 l0 x5_1).f1)) ∧ w'.cell? ⟨(ad270.add ((x5_1).toNat * 4)).block,(ad270.add ((x5_1).toNat * 4)).off + 2,none⟩ = some (.int .i8 ((rd_T36 l0 x5_1).f2)) ∧ w'.cell? ⟨(ad270.add ((x5_1).toNat * 4)).block,(ad270.add ((x5_1).toNat * 4)).off + 3,none⟩ = some (.int .i8 ((rd_T36 l0 x5_1).f3)) ∧ w'.cell? (ad271.add ((x5_1).toNat * 4)) = some (.int .i8 ((rd_T36 l1 x5_1).f0)) ∧ w'.cell? ⟨(ad271.add ((x5_1).toNat * 4)).block,(ad271.add ((x5_1).toNat * 4)).off + 1,none⟩ = some (.int .i8 ((rd_T36 l1 x5_1).f1)) ∧ w'.cell? ⟨(ad271.add ((x5_1).toNat * 4)).block,(ad271.add ((x5_1).toNat * 4)).off + 2,none⟩ = some (.int .i8 ((rd_T36 l1 x5_1).f2)) ∧ w'.cell? ⟨(ad271.add ((x5_1).toNat * 4)).block,(ad271.add ((x5_1).toNat * 4)).off + 3,none⟩ = some (.int .i8 ((rd_T36 l1 x5_1).f3))) (ds:=[]) (mB_ 10 0) (by kernel_rfl) rfl rfl ⟨((HB.out.cell (bl_ w _ hw270_0)).trans hw270_0),((HB.out.cell (bl_ w _ hw270_1)).trans hw270_1),((HB.out.cell (bl_ w _ hw270_2)).trans hw270_2),((HB.out.cell (bl_ w _ hw270_3)).trans hw270_3),((HB.out.cell (bl_ w _ hw271_0)).trans hw271_0),((HB.out.cell (bl_ w _ hw271_1)).trans hw271_1),((HB.out.cell (bl_ w _ hw271_2)).trans hw271_2),((HB.out.cell (bl_ w _ hw271_3)).trans hw271_3)⟩ (fun hHeld=>?_);refine with_tabW laws_eqSlabS.tab6 laws_eqSlabS.bits6 (fun HT_ HW_=>?_);generalize wr.drew = w11 at HB hx270_0 hx270_1 hx270_2 hx270_3 hx271_0 hx271_1 hx271_2 hx271_3 hHeld ⊢;refine pure_ (i:=0) (N:=some 17) (v:=?_) (a':=?_) (mB_ 10 1) rfl rfl (any_of HT_.out (by kernel_rfl)) (fun _ _ _ h=>h) (Or.inl ⟨by rfl,?_⟩) ?_ ?_;rotate_left
        ·
         intro w'
         go_simp
         with_reducible rfl
        rotate_left
        ·
         simp only [Act.put,z1_,z2_,z3_,i64_w,i32_w]
         rfl
        refine pure_ (i:=1) (N:=some 18) (v:=?_) (a':=?_) (mB_ 10 3) rfl rfl (any_of HT_.out (by kernel_rfl)) (fun _ _ _ h=>h) (Or.inl ⟨by rfl,?_⟩) ?_ ?_;rotate_left
        ·
         intro w'
         go_simp
         with_reducible rfl
        rotate_left
        ·
         simp only [Act.put,z1_,z2_,z3_,i64_w,i32_w]
         rfl
        refine pure_ (i:=2) (N:=some 19) (v:=?_) (a':=?_) (mB_ 10 7) rfl rfl (any_of HT_.out (by kernel_rfl)) (fun _ _ _ h=>h) (Or.inl ⟨by rfl,?_⟩) ?_ ?_;rotate_left
        ·
         intro w'
         go_simp
         with_reducible rfl
        rotate_left
        ·
         simp only [Act.put,z1_,z2_,z3_,i64_w,i32_w]
         rfl
        refine pure_ (i:=4) (N:=some 21) (v:=?_) (a':=?_) (mB_ 10 23) rfl rfl (any_of HT_.out (by kernel_rfl)) (fun _ _ _ h=>h) (Or.inl ⟨by rfl,?_⟩) ?_ ?_;rotate_left
        ·
         intro w'
         go_simp
         with_reducible rfl
        rotate_left
        ·
         simp only [Act.put,z1_,z2_,z3_,i64_w,i32_w]
         rfl
        refine pure_ (i:=5) (N:=some 22) (v:=?_) (a':=?_) (mB_ 10 55) rfl rfl (any_of HT_.out (by kernel_rfl)) (fun _ _ _ h=>h) (Or.inl ⟨by rfl,?_⟩) ?_ ?_;rotate_left
        ·
         intro w'
         go_simp
         with_reducible rfl
        rotate_left
        ·
         simp only [Act.put,z1_,z2_,z3_,i64_w,i32_w]
         rfl
        refine pure_ (i:=6) (N:=some 23) (v:=?_) (a':=?_) (mB_ 10 119) rfl rfl (any_of HT_.out (by kernel_rfl)) (fun _ _ _ h=>h) (Or.inl ⟨by rfl,?_⟩) ?_ ?_;rotate_left
        ·
         intro w'
         go_simp
         with_reducible rfl
        rotate_left
        ·
         simp only [Act.put,z1_,z2_,z3_,i64_w,i32_w]
         rfl
        refine take_ (i:=3) (N:=some 20) (v:=?_) (a':=?_) (mB_ 10 127) rfl rfl (take_ofW HT_.out HW_.out (by kernel_rfl)) (fun _ _ _ h=>h) (Or.inl ⟨by rfl,?_⟩) hHeld ?_ ?_;rotate_left
        ·
         rintro w' ⟨s0,s1,s2,s3,s4,s5,s6,s7⟩
         go_simp
         with_reducible rfl
        rotate_left
        ·
         simp only [Act.put,z1_,z2_,z3_,i64_w,i32_w]
         rfl
        refine take_ (i:=7) (N:=some 24) (v:=?_) (a':=?_) (mB_ 10 255) rfl rfl (take_ofW HT_.out HW_.out (by kernel_rfl)) (fun _ _ _ h=>h) (Or.inl ⟨by rfl,?_⟩) hHeld ?_ ?_;rotate_left
        ·
         rintro w' ⟨s0,s1,s2,s3,s4,s5,s6,s7⟩
         go_simp
         with_reducible rfl
        rotate_left
        ·
         simp only [Act.put,z1_,z2_,z3_,i64_w,i32_w]
         rfl
        refine one_ (i:=8) (N:=some 25) (mB_ 10 511) rfl rfl (one_of HT_.out (by kernel_rfl)) (by decide) (fun K hK=>?_);refine goes_ Tryd.func30 (by kernel_rfl) rfl #[.agg #[.int .i8 ((rd_T36 l0 x5_1).f0),.int .i8 ((rd_T36 l0 x5_1).f1),.int .i8 ((rd_T36 l0 x5_1).f2),.int .i8 ((rd_T36 l0 x5_1).f3)],.agg #[.int .i8 ((rd_T36 l1 x5_1).f0),.int .i8 ((rd_T36 l1 x5_1).f1),.int .i8 ((rd_T36 l1 x5_1).f2),.int .i8 ((rd_T36 l1 x5_1).f3)]] (by rfl) rfl rfl (by (try simp only [List.map_toArray,List.map_cons,List.map_nil]);first|done|rfl|(simp only [List.length_drop,List.length_take];rfl)) ?_
        with_reducible refine (laws_eqSlab.calls ((rd_T36 l0 x5_1).f0) ((rd_T36 l0 x5_1).f1) ((rd_T36 l0 x5_1).f2) ((rd_T36 l0 x5_1).f3) ((rd_T36 l1 x5_1).f0) ((rd_T36 l1 x5_1).f1) ((rd_T36 l1 x5_1).f2) ((rd_T36 l1 x5_1).f3) false _ A7.out).mono ?_
        rintro e w12 ⟨rfl,hb⟩;refine ⟨_,rfl,?_⟩;have n0_:=am_ (bT_ (by repeat (first|(with_reducible first|exact HB.out|apply bA_|apply bN_|apply bD_)|exact HB.out)) hb);clear HB;have HB:=n0_;clear n0_;(try clear hb);(try clear hb2);(try clear hk);(try clear hi);refine hK.out _ _ ⟨((HB.out.cell (bl_ w _ hw270_0)).trans hw270_0),((HB.out.cell (bl_ w _ hw270_1)).trans hw270_1),((HB.out.cell (bl_ w _ hw270_2)).trans hw270_2),((HB.out.cell (bl_ w _ hw270_3)).trans hw270_3),((HB.out.cell (bl_ w _ hw271_0)).trans hw271_0),((HB.out.cell (bl_ w _ hw271_1)).trans hw271_1),((HB.out.cell (bl_ w _ hw271_2)).trans hw271_2),((HB.out.cell (bl_ w _ hw271_3)).trans hw271_3)⟩ (fun hHeld=>?_);clear hK K;refine norm_ (a':=?_) ?_ ?_;rotate_left
        ·
         show Act.put _ (some 25) _ = _
         simp only [Act.put,z1_,z2_,z3_,i64_w,i32_w]
         rfl
        refine pure_ (i:=9) (N:=some 26) (v:=?_) (a':=?_) (mB_ 10 1023) rfl rfl (any_of HT_.out (by kernel_rfl)) (fun _ _ _ h=>h) (Or.inl ⟨by rfl,?_⟩) ?_ ?_;rotate_left
        ·
         intro w'
         go_simp
         with_reducible rfl
        rotate_left
        ·
         simp only [Act.put,z1_,z2_,z3_,i64_w,i32_w]
         rfl
        refine done_ (done_of HT_.out (by kernel_rfl)) ?_
        try go_wp2
        go_ret
        exact ⟨by first|rfl|(simp [errW_none,errW_some] <;> rfl)|(simp [*,errW_none,errW_some] <;> rfl),by repeat (first|(with_reducible first|exact HB.out|apply bA_|apply bN_|apply bD_)|exact HB.out)⟩
      ·
       rw [if_neg c6] at H;exact absurd H (by simp)
     ·
      rw [if_neg c5] at H;exact absurd H (by simp)
    ·
     rw [if_neg c4] at H;have c4b0 : decide (x5_1 < (l0.length : Int)) = false:=decide_eq_false c4;clear c4;obtain rfl:=Option.some.inj H
     go_wp2
     go_ret
     exact ⟨by first|rfl|(simp [errW_none,errW_some] <;> rfl)|(simp [*,errW_none,errW_some] <;> rfl),by repeat (first|(with_reducible first|exact HB.out|apply bA_|apply bN_|apply bD_)|exact HB.out)⟩
 ·
  rw [if_neg c3] at H;have c3b0 : ((l0.length : Int) == (l1.length : Int)) = false:=beq_eq_false_iff_ne.mpr c3;have c3b1 : ((l0.length : Int) != (l1.length : Int)) = true:=bne_iff_ne.mpr c3;have c3b2 : (l0.length == l1.length) = false:=by first|simpa using c3|(simp at c3 ⊢;omega)
  obtain rfl:=Option.some.inj H
  go_enter Tryd.func20,Tryd.ntmps20
  go_wp2
  go_ret
  exact ⟨by first|rfl|(simp [errW_none,errW_some] <;> rfl)|(simp [*,errW_none,errW_some] <;> rfl),by repeat (first|(with_reducible first|exact HB.out|apply bA_|apply bN_|apply bD_)|exact HB.out)⟩
def laws_markSlabS.l0 : Nat → List (S36) → Int → Int → Option (Int × (List (S36)))
 | 0,_,_,_=>none
 | k + 1,x0,x1,x5=>if x5 < (x0.length : Int) then (if 0≤x5 then ((some (x0.set (x5 : Int).toNat (⟨IntKind.i8.wrap (x1),(rd_T36 x0 x5).f1,(rd_T36 x0 x5).f2,(rd_T36 x0 x5).f3⟩ : S36) : List (S36))).bind fun y276=>((some (y276.set (x5 : Int).toNat (⟨(rd_T36 y276 x5).f0,IntKind.i8.wrap (wrap64 (x1 + 1)),(rd_T36 y276 x5).f2,(rd_T36 y276 x5).f3⟩ : S36) : List (S36))).bind fun y277=>((some (y277.set (x5 : Int).toNat (⟨(rd_T36 y277 x5).f0,(rd_T36 y277 x5).f1,IntKind.i8.wrap (wrap64 ((wrap64 (x1 + 1)) + 1)),(rd_T36 y277 x5).f3⟩ : S36) : List (S36))).bind fun y278=>(laws_markSlabS.l0 k (y278.set (x5 : Int).toNat (⟨(rd_T36 y278 x5).f0,(rd_T36 y278 x5).f1,(rd_T36 y278 x5).f2,IntKind.i8.wrap (wrap64 ((wrap64 ((wrap64 (x1 + 1)) + 1)) + 1))⟩ : S36)) (wrap64 ((wrap64 ((wrap64 ((wrap64 (x1 + 1)) + 1)) + 1)) + 1)) (wrap64 (x5 + 1)))))) else (none)) else (some (x1,x0))
def laws_markSlabS.f (k : Nat) (l0 : List (S36)) (a1 : Int) : Option (Int × (List (S36))) := laws_markSlabS.l0 k l0 a1 0
theorem laws_markSlabS.mono_l : ∀ k, (∀ y0 y1 y2, LeO (laws_markSlabS.l0 k y0 y1 y2) (laws_markSlabS.l0 (k + 1) y0 y1 y2))
 | 0=>fun _ _ _ r h=>by simp [laws_markSlabS.l0] at h
 | k + 1=>by
  have ih0:=laws_markSlabS.mono_l k
  ·
   intro y0 y1 y2
   unfold laws_markSlabS.l0
   repeat' first
   | (with_reducible exact ih0 _ _ _)
   | (with_reducible exact LeO.refl _)
   | (with_reducible exact LeO.none _)
   | (with_reducible refine LeO.ite ?_ ?_)
   | (with_reducible refine LeO.bind ?_ (fun _=>?_))
   | exact ih0 _ _ _
   | exact LeO.none _
   | refine LeO.ite ?_ ?_
   | refine LeO.bind ?_ (fun _=>?_)
theorem laws_markSlabS.mono : ∀ a0 a1 k, LeO (laws_markSlabS.f k a0 a1) (laws_markSlabS.f (k + 1) a0 a1) := by
 intro a0 a1 k;have ih0:=laws_markSlabS.mono_l k
 unfold laws_markSlabS.f
 repeat' first
   | (with_reducible exact ih0 _ _ _)
   | (with_reducible exact LeO.refl _)
   | (with_reducible exact LeO.none _)
   | (with_reducible refine LeO.ite ?_ ?_)
   | (with_reducible refine LeO.bind ?_ (fun _=>?_))
   | exact ih0 _ _ _
   | exact LeO.none _
   | refine LeO.ite ?_ ?_
   | refine LeO.bind ?_ (fun _=>?_)
set_option maxHeartbeats 8000000 in
set_option maxRecDepth 100000 in
theorem laws_markSlabS.calls (k : Nat) (P0_ : Nat → Prop) (u9000_ : Value) (l0 : List (S36)) (a1 : Int) (r1 : Int) (r2 : List (S36)) (w0 w : World) (hB : Below w0.heap.size w0 w) (ho0 : Kd.R k36 36 w w0.heap.size P0_ u9000_ l0) (h : laws_markSlabS.f k l0 a1 = some (r1, r2)) :
  Calls Tryd.prog 21 #[u9000_,.int .i64 a1] w fun e w'=>e = .returned (.int .i64 r1) ∧ Kd.R k36 36 w' w0.heap.size (fun k_=>(P0_ k_ ∨ w.heap.size≤k_)) u9000_ r2 ∧ Below w0.heap.size w0 w' ∧ Kept w w' (fun k_=>P0_ k_):=by
 have HO0:=am_ (show Kd.R k36 36 w w0.heap.size (fun k_=>(P0_ k_ ∨ w.heap.size≤k_)) u9000_ l0 from rM_ ho0 (fun k_ hk=>(.inl hk)));have HK:=am_ (Kept.refl w (fun k_=>P0_ k_));have HW0:=am_ hB.size;have HB:=am_ hB;clear hB;have H : (laws_markSlabS.l0 k l0 a1 0) = some (r1,r2):=h;clear h;have H':=am_ H;clear H
 go_enter Tryd.func21,Tryd.ntmps21
 go_wp2
 go_loopg [1,5] k (fun kq v1 v5 w'=>∃ (x0_1 : List (S36)) (x1_1 : Int) (x5_1 : Int),v1 = .int .i64 x1_1 ∧ v5 = .int .i64 x5_1 ∧ Aside0 (laws_markSlabS.l0 kq x0_1 x1_1 x5_1 = some (r1,r2)) ∧ Aside0 (kq≤k) ∧ Aside0 (Kd.R k36 36 w' w0.heap.size (fun k_=>(P0_ k_ ∨ w.heap.size≤k_)) u9000_ x0_1) ∧ Aside0 (Kept w w' (fun k_=>P0_ k_)) ∧ Aside0 (Below w0.heap.size w0 w'))
 case atStart=>exact ⟨(l0),(a1),(0),(by first|rfl|(simp;done)|(simp [*];done)),(by first|rfl|(simp;done)|(simp [*];done)),H',⟨Nat.le_refl _⟩,⟨by (with_reducible repeat (first|apply Kd.R_alloc|apply Kd.R_drewN|apply Kd.R_drew));exact HO0.out⟩,⟨by repeat (first|(with_reducible first|exact HK.out|apply Kept.alloc|apply Kept.drewN|apply Kept.drew)|exact HK.out)⟩,⟨by repeat (first|(with_reducible first|exact HB.out|apply bA_|apply bN_|apply bD_)|exact HB.out)⟩⟩
 case round =>
  clear H';(try clear c2);(try clear p2);obtain ⟨x0_1,x1_1,x5_1,rfl,rfl,HA,HK1,HO_0,HK,HB⟩:=hrel
  cases gk with
  | zero=>exact absurd HA.out (by simp [laws_markSlabS.l0])
  | succ k1 =>
   have H:=HA.out;clear HA;simp only [laws_markSlabS.l0] at H
   by_cases c3 : x5_1 < (x0_1.length : Int)
   ·
    rw [if_pos c3] at H;have c3b0 : decide (x5_1 < (x0_1.length : Int)) = true:=decide_eq_true c3;clear c3
    by_cases c4 : 0≤x5_1
    ·
     rw [if_pos c4] at H;have c4b0 : decide (0≤x5_1) = true:=decide_eq_true c4;clear c4;obtain ⟨y276,hy276⟩ : ∃ y_ : List (S36),y_ = (x0_1.set (x5_1 : Int).toNat (⟨IntKind.i8.wrap (x1_1),(rd_T36 x0_1 x5_1).f1,(rd_T36 x0_1 x5_1).f2,(rd_T36 x0_1 x5_1).f3⟩ : S36)):=⟨_,rfl⟩
     replace H : ((some (y276.set (x5_1 : Int).toNat (⟨(rd_T36 y276 x5_1).f0,IntKind.i8.wrap (wrap64 (x1_1 + 1)),(rd_T36 y276 x5_1).f2,(rd_T36 y276 x5_1).f3⟩ : S36) : List (S36))).bind fun y277=>((some (y277.set (x5_1 : Int).toNat (⟨(rd_T36 y277 x5_1).f0,(rd_T36 y277 x5_1).f1,IntKind.i8.wrap (wrap64 ((wrap64 (x1_1 + 1)) + 1)),(rd_T36 y277 x5_1).f3⟩ : S36) : List (S36))).bind fun y278=>(laws_markSlabS.l0 k1 (y278.set (x5_1 : Int).toNat (⟨(rd_T36 y278 x5_1).f0,(rd_T36 y278 x5_1).f1,(rd_T36 y278 x5_1).f2,IntKind.i8.wrap (wrap64 ((wrap64 ((wrap64 (x1_1 + 1)) + 1)) + 1))⟩ : S36)) (wrap64 ((wrap64 ((wrap64 ((wrap64 (x1_1 + 1)) + 1)) + 1)) + 1)) (wrap64 (x5_1 + 1))))) = some (r1,r2):=by first|(rw [hy276];with_reducible exact H)|(have H2_:=(Option.bind_some _ _).symm.trans H;rw [hy276];with_reducible exact H2_)|(have H2_:=(Option.bind_some _ _).symm.trans H;with_reducible exact H2_)|with_reducible exact H|(rw [hy276];exact H)|exact H
     have Ny276:=am_ hy276;clear hy276;obtain ⟨y277,hy277⟩ : ∃ y_ : List (S36),y_ = (y276.set (x5_1 : Int).toNat (⟨(rd_T36 y276 x5_1).f0,IntKind.i8.wrap (wrap64 (x1_1 + 1)),(rd_T36 y276 x5_1).f2,(rd_T36 y276 x5_1).f3⟩ : S36)):=⟨_,rfl⟩
     replace H : ((some (y277.set (x5_1 : Int).toNat (⟨(rd_T36 y277 x5_1).f0,(rd_T36 y277 x5_1).f1,IntKind.i8.wrap (wrap64 ((wrap64 (x1_1 + 1)) + 1)),(rd_T36 y277 x5_1).f3⟩ : S36) : List (S36))).bind fun y278=>(laws_markSlabS.l0 k1 (y278.set (x5_1 : Int).toNat (⟨(rd_T36 y278 x5_1).f0,(rd_T36 y278 x5_1).f1,(rd_T36 y278 x5_1).f2,IntKind.i8.wrap (wrap64 ((wrap64 ((wrap64 (x1_1 + 1)) + 1)) + 1))⟩ : S36)) (wrap64 ((wrap64 ((wrap64 ((wrap64 (x1_1 + 1)) + 1)) + 1)) + 1)) (wrap64 (x5_1 + 1)))) = some (r1,r2):=by first|(rw [hy277];with_reducible exact H)|(have H2_:=(Option.bind_some _ _).symm.trans H;rw [hy277];with_reducible exact H2_)|(have H2_:=(Option.bind_some _ _).symm.trans H;with_reducible exact H2_)|with_reducible exact H|(rw [hy277];exact H)|exact H
     have Ny277:=am_ hy277;clear hy277;obtain ⟨y278,hy278⟩ : ∃ y_ : List (S36),y_ = (y277.set (x5_1 : Int).toNat (⟨(rd_T36 y277 x5_1).f0,(rd_T36 y277 x5_1).f1,IntKind.i8.wrap (wrap64 ((wrap64 (x1_1 + 1)) + 1)),(rd_T36 y277 x5_1).f3⟩ : S36)):=⟨_,rfl⟩
     replace H : (laws_markSlabS.l0 k1 (y278.set (x5_1 : Int).toNat (⟨(rd_T36 y278 x5_1).f0,(rd_T36 y278 x5_1).f1,(rd_T36 y278 x5_1).f2,IntKind.i8.wrap (wrap64 ((wrap64 ((wrap64 (x1_1 + 1)) + 1)) + 1))⟩ : S36)) (wrap64 ((wrap64 ((wrap64 ((wrap64 (x1_1 + 1)) + 1)) + 1)) + 1)) (wrap64 (x5_1 + 1))) = some (r1,r2):=by first|(rw [hy278];with_reducible exact H)|(have H2_:=(Option.bind_some _ _).symm.trans H;rw [hy278];with_reducible exact H2_)|(have H2_:=(Option.bind_some _ _).symm.trans H;with_reducible exact H2_)|with_reducible exact H|(rw [hy278];exact H)|exact H
     have Ny278:=am_ hy278;clear hy278;obtain ⟨y279,hy279⟩ : ∃ y_ : List (S36),y_ = (y278.set (x5_1 : Int).toNat (⟨(rd_T36 y278 x5_1).f0,(rd_T36 y278 x5_1).f1,(rd_T36 y278 x5_1).f2,IntKind.i8.wrap (wrap64 ((wrap64 ((wrap64 (x1_1 + 1)) + 1)) + 1))⟩ : S36)):=⟨_,rfl⟩
     replace H : (laws_markSlabS.l0 k1 y279 (wrap64 ((wrap64 ((wrap64 ((wrap64 (x1_1 + 1)) + 1)) + 1)) + 1)) (wrap64 (x5_1 + 1))) = some (r1,r2):=by first|(rw [hy279];with_reducible exact H)|(have H2_:=(Option.bind_some _ _).symm.trans H;rw [hy279];with_reducible exact H2_)|(have H2_:=(Option.bind_some _ _).symm.trans H;with_reducible exact H2_)|with_reducible exact H|(rw [hy279];exact H)|exact H
     have Ny279:=am_ hy279;clear hy279;have H':=am_ H;clear H;obtain ⟨Ao9,co9,eo9⟩:=Kd.R_slice HO_0.out;subst eo9;have p5 : 0≤(x5_1 : Int):=od_ (by first|(with_reducible assumption)|assumption);have q5 : (x5_1 : Int) < ((x0_1.length : Int) : Int):=od_ (by first|(with_reducible assumption)|assumption);obtain ⟨go5,co5,eo5,gb5,gl5,cl5,HG5⟩:=Kd.R_form HO_0.out (by omega)
     (first|cases eo5|(injection eo5 with ea_ en_ ec_;(first|subst ea_|(injection ea_ with ea_;subst ea_));subst ec_;clear en_))
     have GB5:=am_ gb5;have GG5:=am_ HG5;clear gb5 gl5 HG5;have HMgo5:=am_ (show (P0_ go5 ∨ w.heap.size≤go5) from (HO_0.out.1 _ rfl));obtain ⟨ce5,hcl5,hM5,hcc5,hfr5⟩:=Kd.R_elem HO_0.out z36 (x5_1 : Int) p5 q5;obtain rfl:=k36_openM hM5;have hx5_0 : wr.cell? ⟨go5,(x5_1 : Int).toNat * 4,none⟩ = some (.int .i8 ((rd_T36 x0_1 x5_1).f0)):=hcc5 0 _ rfl;have hx5_1 : wr.cell? ⟨go5,(x5_1 : Int).toNat * 4 + 1,none⟩ = some (.int .i8 ((rd_T36 x0_1 x5_1).f1)):=hcc5 1 _ rfl;have hx5_2 : wr.cell? ⟨go5,(x5_1 : Int).toNat * 4 + 2,none⟩ = some (.int .i8 ((rd_T36 x0_1 x5_1).f2)):=hcc5 2 _ rfl;have hx5_3 : wr.cell? ⟨go5,(x5_1 : Int).toNat * 4 + 3,none⟩ = some (.int .i8 ((rd_T36 x0_1 x5_1).f3)):=hcc5 3 _ rfl;have hf5_0 : wr.frozen? ⟨go5,(x5_1 : Int).toNat * 4,none⟩ = false:=hfr5 0;have hf5_1 : wr.frozen? ⟨go5,(x5_1 : Int).toNat * 4 + 1,none⟩ = false:=hfr5 1;have hf5_2 : wr.frozen? ⟨go5,(x5_1 : Int).toNat * 4 + 2,none⟩ = false:=hfr5 2;have hf5_3 : wr.frozen? ⟨go5,(x5_1 : Int).toNat * 4 + 3,none⟩ = false:=hfr5 3;clear hcl5 hcc5 hfr5;(try clear hM5);replace p5:=eq_true p5;replace q5:=eq_true q5;have HX10:=am_ (show Kd.R k36 36 wr w0.heap.size (fun k_=>(P0_ k_ ∨ w.heap.size≤k_)) (.slice (some ⟨go5,0,none⟩) x0_1.length co9) x0_1 from (by (with_reducible repeat (first|apply Kd.R_alloc|apply Kd.R_drewN|apply Kd.R_drew));exact HO_0.out));obtain ⟨ce10,hcl10,hM10,hcc10,hfr10⟩:=Kd.R_elem HX10.out z36 (x5_1 : Int) (od_ (by first|(with_reducible assumption)|assumption)) (by have h_ : (x5_1 : Int) < ((x0_1.length : Int) : Int):=od_ (by first|(with_reducible assumption)|assumption);first|exact h_|(have e_:=(Kd.R_reads' HO_0.out).1;omega)|simpa using h_);obtain rfl:=k36_openM hM10;have HP10:=Kd.R_seg HX10.out (x5_1 : Int) (od_ (by first|(with_reducible assumption)|assumption)) (by have h_ : (x5_1 : Int) < ((x0_1.length : Int) : Int):=od_ (by first|(with_reducible assumption)|assumption);first|exact h_|(have e_:=(Kd.R_reads' HO_0.out).1;omega)|simpa using h_) (seg:=[.int .i8 (IntKind.i8.wrap (x1_1))]) (j:=0) hcl10 hcc10 (show 1≤4 from by decide) (x':=(⟨IntKind.i8.wrap (x1_1),(rd_T36 x0_1 x5_1).f1,(rd_T36 x0_1 x5_1).f2,(rd_T36 x0_1 x5_1).f3⟩ : S36)) (k36_mkM _ _ _ (⟨IntKind.i8.wrap (x1_1),(rd_T36 x0_1 x5_1).f1,(rd_T36 x0_1 x5_1).f2,(rd_T36 x0_1 x5_1).f3⟩ : S36) ) (fun _ hk=>hk);have hx10_0:=hcc10 0 _ rfl;(try simp only [show (k36).sz = 4 from rfl,Nat.mul_one,Nat.add_zero] at hx10_0);have hf10_0:=hfr10 0;(try simp only [show (k36).sz = 4 from rfl,Nat.mul_one,Nat.add_zero] at hf10_0);clear hcl10 hcc10 hfr10;(try clear hM10)
     go_wp2_with (first|((with_reducible refine gate_store (t:=22) (p:=17) rfl ?_);refine store_event (t:=22) (p:=17) (v:=?vo_w11) (w1:=(wr.setCell ⟨go5,(x5_1 : Int).toNat * 4,none⟩ (.int .i8 (IntKind.i8.wrap (x1_1))))) ?hg ?ho ?hn ?hr ?_;(case ho=>rfl);(case hg=>rfl);(case hn=>rfl);(case hr=>first|(go_simp;done)|(go_simp;rfl));intro w11 hw;have hg : wr.grownBy w11 (some go5):=(by rw [hw];exact HP10.2);have hp_ : Kd.R k36 36 w11 w0.heap.size (fun k_=>(P0_ k_ ∨ w.heap.size≤k_)) (.slice (some ⟨go5,0,none⟩) x0_1.length co9) y276:=(by rw [hw,Ny276.out];exact HP10.1);clear HP10;have n0_:=am_ (hp_);have n1_:=am_ ((by rw [hw];exact bS_ (HB.out) GB5.out : Below w0.heap.size w0 w11));have n2_:=am_ (Kept.of_grown (S:=(fun k_=>P0_ k_)) hg (by repeat (first|(with_reducible first|exact HK.out|apply Kept.alloc|apply Kept.drewN|apply Kept.drew)|exact HK.out)) (fun k_ e_=>(HO_0.out.1 k_ e_)));clear HO_0;clear HB;clear HK;have HO_0:=n0_;have HB:=n1_;have HK:=n2_;clear n0_ n1_ n2_;clear hg hw hp_;have p6 : 0≤(x5_1 : Int):=od_ (by first|(with_reducible assumption)|assumption);have q6 : (x5_1 : Int) < ((x0_1.length : Int) : Int):=od_ (by first|(with_reducible assumption)|assumption);obtain ⟨ce6,hcl6,hM6,hcc6,hfr6⟩:=Kd.R_elem HO_0.out z36 (x5_1 : Int) p6 q6;obtain rfl:=k36_openM hM6;have hx6_0 : w11.cell? ⟨go5,(x5_1 : Int).toNat * 4,none⟩ = some (.int .i8 ((rd_T36 y276 x5_1).f0)):=hcc6 0 _ rfl;have hx6_1 : w11.cell? ⟨go5,(x5_1 : Int).toNat * 4 + 1,none⟩ = some (.int .i8 ((rd_T36 y276 x5_1).f1)):=hcc6 1 _ rfl;have hx6_2 : w11.cell? ⟨go5,(x5_1 : Int).toNat * 4 + 2,none⟩ = some (.int .i8 ((rd_T36 y276 x5_1).f2)):=hcc6 2 _ rfl;have hx6_3 : w11.cell? ⟨go5,(x5_1 : Int).toNat * 4 + 3,none⟩ = some (.int .i8 ((rd_T36 y276 x5_1).f3)):=hcc6 3 _ rfl;have hf6_0 : w11.frozen? ⟨go5,(x5_1 : Int).toNat * 4,none⟩ = false:=hfr6 0;have hf6_1 : w11.frozen? ⟨go5,(x5_1 : Int).toNat * 4 + 1,none⟩ = false:=hfr6 1;have hf6_2 : w11.frozen? ⟨go5,(x5_1 : Int).toNat * 4 + 2,none⟩ = false:=hfr6 2;have hf6_3 : w11.frozen? ⟨go5,(x5_1 : Int).toNat * 4 + 3,none⟩ = false:=hfr6 3;clear hcl6 hcc6 hfr6;(try clear hM6);replace p6:=eq_true p6;replace q6:=eq_true q6;have HX12:=am_ (show Kd.R k36 36 w11 w0.heap.size (fun k_=>(P0_ k_ ∨ w.heap.size≤k_)) (.slice (some ⟨go5,0,none⟩) x0_1.length co9) y276 from (by (with_reducible repeat (first|apply Kd.R_alloc|apply Kd.R_drewN|apply Kd.R_drew));exact HO_0.out));obtain ⟨ce12,hcl12,hM12,hcc12,hfr12⟩:=Kd.R_elem HX12.out z36 (x5_1 : Int) (od_ (by first|(with_reducible assumption)|assumption)) (by have h_ : (x5_1 : Int) < ((x0_1.length : Int) : Int):=od_ (by first|(with_reducible assumption)|assumption);first|exact h_|(have e_:=(Kd.R_reads' HO_0.out).1;omega)|simpa using h_);obtain rfl:=k36_openM hM12;have HP12:=Kd.R_seg HX12.out (x5_1 : Int) (od_ (by first|(with_reducible assumption)|assumption)) (by have h_ : (x5_1 : Int) < ((x0_1.length : Int) : Int):=od_ (by first|(with_reducible assumption)|assumption);first|exact h_|(have e_:=(Kd.R_reads' HO_0.out).1;omega)|simpa using h_) (seg:=[.int .i8 (IntKind.i8.wrap (wrap64 (x1_1 + 1)))]) (j:=1) hcl12 hcc12 (show 2≤4 from by decide) (x':=(⟨(rd_T36 y276 x5_1).f0,IntKind.i8.wrap (wrap64 (x1_1 + 1)),(rd_T36 y276 x5_1).f2,(rd_T36 y276 x5_1).f3⟩ : S36)) (k36_mkM _ _ _ (⟨(rd_T36 y276 x5_1).f0,IntKind.i8.wrap (wrap64 (x1_1 + 1)),(rd_T36 y276 x5_1).f2,(rd_T36 y276 x5_1).f3⟩ : S36) ) (fun _ hk=>hk);have hx12_1:=hcc12 1 _ rfl;(try simp only [show (k36).sz = 4 from rfl,Nat.mul_one,Nat.add_zero] at hx12_1);have hf12_1:=hfr12 1;(try simp only [show (k36).sz = 4 from rfl,Nat.mul_one,Nat.add_zero] at hf12_1);clear hcl12 hcc12 hfr12;(try clear hM12))|((with_reducible refine gate_store (t:=22) (p:=25) rfl ?_);refine store_event (t:=22) (p:=25) (v:=?vo_w13) (w1:=(w11.setCell ⟨go5,(x5_1 : Int).toNat * 4 + 1,none⟩ (.int .i8 (IntKind.i8.wrap (wrap64 (x1_1 + 1)))))) ?hg ?ho ?hn ?hr ?_;(case ho=>rfl);(case hg=>rfl);(case hn=>rfl);(case hr=>first|(go_simp;done)|(go_simp;rfl));intro w13 hw;have hg : w11.grownBy w13 (some go5):=(by rw [hw];exact HP12.2);have hp_ : Kd.R k36 36 w13 w0.heap.size (fun k_=>(P0_ k_ ∨ w.heap.size≤k_)) (.slice (some ⟨go5,0,none⟩) x0_1.length co9) y277:=(by rw [hw,Ny277.out];exact HP12.1);clear HP12;have n0_:=am_ (hp_);have n1_:=am_ ((by rw [hw];exact bS_ (HB.out) GB5.out : Below w0.heap.size w0 w13));have n2_:=am_ (Kept.of_grown (S:=(fun k_=>P0_ k_)) hg (by repeat (first|(with_reducible first|exact HK.out|apply Kept.alloc|apply Kept.drewN|apply Kept.drew)|exact HK.out)) (fun k_ e_=>(HO_0.out.1 k_ e_)));clear HO_0;clear HB;clear HK;have HO_0:=n0_;have HB:=n1_;have HK:=n2_;clear n0_ n1_ n2_;clear hg hw hp_;have p7 : 0≤(x5_1 : Int):=od_ (by first|(with_reducible assumption)|assumption);have q7 : (x5_1 : Int) < ((x0_1.length : Int) : Int):=od_ (by first|(with_reducible assumption)|assumption);obtain ⟨ce7,hcl7,hM7,hcc7,hfr7⟩:=Kd.R_elem HO_0.out z36 (x5_1 : Int) p7 q7;obtain rfl:=k36_openM hM7;have hx7_0 : w13.cell? ⟨go5,(x5_1 : Int).toNat * 4,none⟩ = some (.int .i8 ((rd_T36 y277 x5_1).f0)):=hcc7 0 _ rfl;have hx7_1 : w13.cell? ⟨go5,(x5_1 : Int).toNat * 4 + 1,none⟩ = some (.int .i8 ((rd_T36 y277 x5_1).f1)):=hcc7 1 _ rfl;have hx7_2 : w13.cell? ⟨go5,(x5_1 : Int).toNat * 4 + 2,none⟩ = some (.int .i8 ((rd_T36 y277 x5_1).f2)):=hcc7 2 _ rfl;have hx7_3 : w13.cell? ⟨go5,(x5_1 : Int).toNat * 4 + 3,none⟩ = some (.int .i8 ((rd_T36 y277 x5_1).f3)):=hcc7 3 _ rfl;have hf7_0 : w13.frozen? ⟨go5,(x5_1 : Int).toNat * 4,none⟩ = false:=hfr7 0;have hf7_1 : w13.frozen? ⟨go5,(x5_1 : Int).toNat * 4 + 1,none⟩ = false:=hfr7 1;have hf7_2 : w13.frozen? ⟨go5,(x5_1 : Int).toNat * 4 + 2,none⟩ = false:=hfr7 2;have hf7_3 : w13.frozen? ⟨go5,(x5_1 : Int).toNat * 4 + 3,none⟩ = false:=hfr7 3;clear hcl7 hcc7 hfr7;(try clear hM7);replace p7:=eq_true p7;replace q7:=eq_true q7;have HX14:=am_ (show Kd.R k36 36 w13 w0.heap.size (fun k_=>(P0_ k_ ∨ w.heap.size≤k_)) (.slice (some ⟨go5,0,none⟩) x0_1.length co9) y277 from (by (with_reducible repeat (first|apply Kd.R_alloc|apply Kd.R_drewN|apply Kd.R_drew));exact HO_0.out));obtain ⟨ce14,hcl14,hM14,hcc14,hfr14⟩:=Kd.R_elem HX14.out z36 (x5_1 : Int) (od_ (by first|(with_reducible assumption)|assumption)) (by have h_ : (x5_1 : Int) < ((x0_1.length : Int) : Int):=od_ (by first|(with_reducible assumption)|assumption);first|exact h_|(have e_:=(Kd.R_reads' HO_0.out).1;omega)|simpa using h_);obtain rfl:=k36_openM hM14;have HP14:=Kd.R_seg HX14.out (x5_1 : Int) (od_ (by first|(with_reducible assumption)|assumption)) (by have h_ : (x5_1 : Int) < ((x0_1.length : Int) : Int):=od_ (by first|(with_reducible assumption)|assumption);first|exact h_|(have e_:=(Kd.R_reads' HO_0.out).1;omega)|simpa using h_) (seg:=[.int .i8 (IntKind.i8.wrap (wrap64 ((wrap64 (x1_1 + 1)) + 1)))]) (j:=2) hcl14 hcc14 (show 3≤4 from by decide) (x':=(⟨(rd_T36 y277 x5_1).f0,(rd_T36 y277 x5_1).f1,IntKind.i8.wrap (wrap64 ((wrap64 (x1_1 + 1)) + 1)),(rd_T36 y277 x5_1).f3⟩ : S36)) (k36_mkM _ _ _ (⟨(rd_T36 y277 x5_1).f0,(rd_T36 y277 x5_1).f1,IntKind.i8.wrap (wrap64 ((wrap64 (x1_1 + 1)) + 1)),(rd_T36 y277 x5_1).f3⟩ : S36) ) (fun _ hk=>hk);have hx14_2:=hcc14 2 _ rfl;(try simp only [show (k36).sz = 4 from rfl,Nat.mul_one,Nat.add_zero] at hx14_2);have hf14_2:=hfr14 2;(try simp only [show (k36).sz = 4 from rfl,Nat.mul_one,Nat.add_zero] at hf14_2);clear hcl14 hcc14 hfr14;(try clear hM14))|((with_reducible refine gate_store (t:=22) (p:=33) rfl ?_);refine store_event (t:=22) (p:=33) (v:=?vo_w15) (w1:=(w13.setCell ⟨go5,(x5_1 : Int).toNat * 4 + 2,none⟩ (.int .i8 (IntKind.i8.wrap (wrap64 ((wrap64 (x1_1 + 1)) + 1)))))) ?hg ?ho ?hn ?hr ?_;(case ho=>rfl);(case hg=>rfl);(case hn=>rfl);(case hr=>first|(go_simp;done)|(go_simp;rfl));intro w15 hw;have hg : w13.grownBy w15 (some go5):=(by rw [hw];exact HP14.2);have hp_ : Kd.R k36 36 w15 w0.heap.size (fun k_=>(P0_ k_ ∨ w.heap.size≤k_)) (.slice (some ⟨go5,0,none⟩) x0_1.length co9) y278:=(by rw [hw,Ny278.out];exact HP14.1);clear HP14;have n0_:=am_ (hp_);have n1_:=am_ ((by rw [hw];exact bS_ (HB.out) GB5.out : Below w0.heap.size w0 w15));have n2_:=am_ (Kept.of_grown (S:=(fun k_=>P0_ k_)) hg (by repeat (first|(with_reducible first|exact HK.out|apply Kept.alloc|apply Kept.drewN|apply Kept.drew)|exact HK.out)) (fun k_ e_=>(HO_0.out.1 k_ e_)));clear HO_0;clear HB;clear HK;have HO_0:=n0_;have HB:=n1_;have HK:=n2_;clear n0_ n1_ n2_;clear hg hw hp_;have p8 : 0≤(x5_1 : Int):=od_ (by first|(with_reducible assumption)|assumption);have q8 : (x5_1 : Int) < ((x0_1.length : Int) : Int):=od_ (by first|(with_reducible assumption)|assumption);obtain ⟨ce8,hcl8,hM8,hcc8,hfr8⟩:=Kd.R_elem HO_0.out z36 (x5_1 : Int) p8 q8;obtain rfl:=k36_openM hM8;have hx8_0 : w15.cell? ⟨go5,(x5_1 : Int).toNat * 4,none⟩ = some (.int .i8 ((rd_T36 y278 x5_1).f0)):=hcc8 0 _ rfl;have hx8_1 : w15.cell? ⟨go5,(x5_1 : Int).toNat * 4 + 1,none⟩ = some (.int .i8 ((rd_T36 y278 x5_1).f1)):=hcc8 1 _ rfl;have hx8_2 : w15.cell? ⟨go5,(x5_1 : Int).toNat * 4 + 2,none⟩ = some (.int .i8 ((rd_T36 y278 x5_1).f2)):=hcc8 2 _ rfl;have hx8_3 : w15.cell? ⟨go5,(x5_1 : Int).toNat * 4 + 3,none⟩ = some (.int .i8 ((rd_T36 y278 x5_1).f3)):=hcc8 3 _ rfl;have hf8_0 : w15.frozen? ⟨go5,(x5_1 : Int).toNat * 4,none⟩ = false:=hfr8 0;have hf8_1 : w15.frozen? ⟨go5,(x5_1 : Int).toNat * 4 + 1,none⟩ = false:=hfr8 1;have hf8_2 : w15.frozen? ⟨go5,(x5_1 : Int).toNat * 4 + 2,none⟩ = false:=hfr8 2;have hf8_3 : w15.frozen? ⟨go5,(x5_1 : Int).toNat * 4 + 3,none⟩ = false:=hfr8 3;clear hcl8 hcc8 hfr8;(try clear hM8);replace p8:=eq_true p8;replace q8:=eq_true q8;have HX16:=am_ (show Kd.R k36 36 w15 w0.heap.size (fun k_=>(P0_ k_ ∨ w.heap.size≤k_)) (.slice (some ⟨go5,0,none⟩) x0_1.length co9) y278 from (by (with_reducible repeat (first|apply Kd.R_alloc|apply Kd.R_drewN|apply Kd.R_drew));exact HO_0.out));obtain ⟨ce16,hcl16,hM16,hcc16,hfr16⟩:=Kd.R_elem HX16.out z36 (x5_1 : Int) (od_ (by first|(with_reducible assumption)|assumption)) (by have h_ : (x5_1 : Int) < ((x0_1.length : Int) : Int):=od_ (by first|(with_reducible assumption)|assumption);first|exact h_|(have e_:=(Kd.R_reads' HO_0.out).1;omega)|simpa using h_);obtain rfl:=k36_openM hM16;have HP16:=Kd.R_seg HX16.out (x5_1 : Int) (od_ (by first|(with_reducible assumption)|assumption)) (by have h_ : (x5_1 : Int) < ((x0_1.length : Int) : Int):=od_ (by first|(with_reducible assumption)|assumption);first|exact h_|(have e_:=(Kd.R_reads' HO_0.out).1;omega)|simpa using h_) (seg:=[.int .i8 (IntKind.i8.wrap (wrap64 ((wrap64 ((wrap64 (x1_1 + 1)) + 1)) + 1)))]) (j:=3) hcl16 hcc16 (show 4≤4 from by decide) (x':=(⟨(rd_T36 y278 x5_1).f0,(rd_T36 y278 x5_1).f1,(rd_T36 y278 x5_1).f2,IntKind.i8.wrap (wrap64 ((wrap64 ((wrap64 (x1_1 + 1)) + 1)) + 1))⟩ : S36)) (k36_mkM _ _ _ (⟨(rd_T36 y278 x5_1).f0,(rd_T36 y278 x5_1).f1,(rd_T36 y278 x5_1).f2,IntKind.i8.wrap (wrap64 ((wrap64 ((wrap64 (x1_1 + 1)) + 1)) + 1))⟩ : S36) ) (fun _ hk=>hk);have hx16_3:=hcc16 3 _ rfl;(try simp only [show (k36).sz = 4 from rfl,Nat.mul_one,Nat.add_zero] at hx16_3);have hf16_3:=hfr16 3;(try simp only [show (k36).sz = 4 from rfl,Nat.mul_one,Nat.add_zero] at hf16_3);clear hcl16 hcc16 hfr16;(try clear hM16))|((with_reducible refine gate_store (t:=22) (p:=41) rfl ?_);refine store_event (t:=22) (p:=41) (v:=?vo_w17) (w1:=(w15.setCell ⟨go5,(x5_1 : Int).toNat * 4 + 3,none⟩ (.int .i8 (IntKind.i8.wrap (wrap64 ((wrap64 ((wrap64 (x1_1 + 1)) + 1)) + 1)))))) ?hg ?ho ?hn ?hr ?_;(case ho=>rfl);(case hg=>rfl);(case hn=>rfl);(case hr=>first|(go_simp;done)|(go_simp;rfl));intro w17 hw;have hg : w15.grownBy w17 (some go5):=(by rw [hw];exact HP16.2);have hp_ : Kd.R k36 36 w17 w0.heap.size (fun k_=>(P0_ k_ ∨ w.heap.size≤k_)) (.slice (some ⟨go5,0,none⟩) x0_1.length co9) y279:=(by rw [hw,Ny279.out];exact HP16.1);clear HP16;have n0_:=am_ (hp_);have n1_:=am_ ((by rw [hw];exact bS_ (HB.out) GB5.out : Below w0.heap.size w0 w17));have n2_:=am_ (Kept.of_grown (S:=(fun k_=>P0_ k_)) hg (by repeat (first|(with_reducible first|exact HK.out|apply Kept.alloc|apply Kept.drewN|apply Kept.drew)|exact HK.out)) (fun k_ e_=>(HO_0.out.1 k_ e_)));clear HO_0;clear HB;clear HK;have HO_0:=n0_;have HB:=n1_;have HK:=n2_;clear n0_ n1_ n2_;clear hg hw hp_))
     go_roundg k1
     case measure=>have:=HK1.out;omega
     case rel=>exact ⟨(y279),(wrap64 ((wrap64 ((wrap64 ((wrap64 (x1_1 + 1)) + 1)) + 1)) + 1)),(wrap64 (x5_1 + 1)),(by first|rfl|(simp;done)|(simp [*];done)),(by first|rfl|(simp;done)|(simp [*];done)),H',⟨by have:=HK1.out;omega⟩,⟨by (with_reducible repeat (first|apply Kd.R_alloc|apply Kd.R_drewN|apply Kd.R_drew));exact HO_0.out⟩,⟨by repeat (first|(with_reducible first|exact HK.out|apply Kept.alloc|apply Kept.drewN|apply Kept.drew)|exact HK.out)⟩,⟨by repeat (first|(with_reducible first|exact HB.out|apply bA_|apply bN_|apply bD_)|exact HB.out)⟩⟩
    ·
     rw [if_neg c4] at H;exact absurd H (by simp)
   ·
    rw [if_neg c3] at H;have c3b0 : decide (x5_1 < (x0_1.length : Int)) = false:=decide_eq_false c3;clear c3;simp only [Option.some.injEq,Prod.mk.injEq] at H;obtain ⟨rfl,rfl⟩:=H;obtain ⟨Ao18,co18,eo18⟩:=Kd.R_slice HO_0.out;subst eo18
    go_wp2
    go_ret
    exact ⟨by first|rfl|(simp [errW_none,errW_some] <;> rfl)|(simp [*,errW_none,errW_some] <;> rfl),by (with_reducible repeat (first|apply Kd.R_alloc|apply Kd.R_drewN|apply Kd.R_drew));exact HO_0.out,by repeat (first|(with_reducible first|exact HB.out|apply bA_|apply bN_|apply bD_)|exact HB.out),by repeat (first|(with_reducible first|exact HK.out|apply Kept.alloc|apply Kept.drewN|apply Kept.drew)|exact HK.out)⟩
def laws_heldSlabS.l0 : Nat → List (S36) → Int → Int → Option (Int)
 | 0,_,_,_=>none
 | k + 1,x0,x1,x5=>if x5 < (x0.length : Int) then (if 0≤x5 then (if ((rd_T36 x0 x5).f0) = (IntKind.i8.wrap (x1)) then (if ((rd_T36 x0 x5).f1) = (IntKind.i8.wrap (wrap64 (x1 + 1))) then (if ((rd_T36 x0 x5).f2) = (IntKind.i8.wrap (wrap64 ((wrap64 (x1 + 1)) + 1))) then (if ((rd_T36 x0 x5).f3) = (IntKind.i8.wrap (wrap64 ((wrap64 ((wrap64 (x1 + 1)) + 1)) + 1))) then (laws_heldSlabS.l0 k x0 (wrap64 ((wrap64 ((wrap64 ((wrap64 (x1 + 1)) + 1)) + 1)) + 1)) (wrap64 (x5 + 1))) else (some (-1))) else (some (-1))) else (some (-1))) else (some (-1))) else (none)) else (some x1)
def laws_heldSlabS.f (k : Nat) (l0 : List (S36)) (a1 : Int) : Option (Int) := laws_heldSlabS.l0 k l0 a1 0
theorem laws_heldSlabS.mono_l : ∀ k, (∀ y0 y1 y2, LeO (laws_heldSlabS.l0 k y0 y1 y2) (laws_heldSlabS.l0 (k + 1) y0 y1 y2))
 | 0=>fun _ _ _ r h=>by simp [laws_heldSlabS.l0] at h
 | k + 1=>by
  have ih0:=laws_heldSlabS.mono_l k
  ·
   intro y0 y1 y2
   unfold laws_heldSlabS.l0
   repeat' first
   | (with_reducible exact ih0 _ _ _)
   | (with_reducible exact LeO.refl _)
   | (with_reducible exact LeO.none _)
   | (with_reducible refine LeO.ite ?_ ?_)
   | (with_reducible refine LeO.bind ?_ (fun _=>?_))
   | exact ih0 _ _ _
   | exact LeO.none _
   | refine LeO.ite ?_ ?_
   | refine LeO.bind ?_ (fun _=>?_)
theorem laws_heldSlabS.mono : ∀ a0 a1 k, LeO (laws_heldSlabS.f k a0 a1) (laws_heldSlabS.f (k + 1) a0 a1) := by
 intro a0 a1 k;have ih0:=laws_heldSlabS.mono_l k
 unfold laws_heldSlabS.f
 repeat' first
   | (with_reducible exact ih0 _ _ _)
   | (with_reducible exact LeO.refl _)
   | (with_reducible exact LeO.none _)
   | (with_reducible refine LeO.ite ?_ ?_)
   | (with_reducible refine LeO.bind ?_ (fun _=>?_))
   | exact ih0 _ _ _
   | exact LeO.none _
   | refine LeO.ite ?_ ?_
   | refine LeO.bind ?_ (fun _=>?_)
set_option maxHeartbeats 8000000 in
set_option maxRecDepth 100000 in
theorem laws_heldSlabS.calls (k : Nat) (A0 : Option Addr) (c0 : Nat) (l0 : List (S36)) (a1 : Int) (r : Int) (w : World) (hr0 : Kd.C k36 w A0 l0.length l0) (hc0 : l0.length ≤ c0) (h : laws_heldSlabS.f k l0 a1 = some r) :
  Calls Tryd.prog 22 #[.slice A0 l0.length c0,.int .i64 a1] w fun e w'=>e = .returned (.int .i64 r) ∧ Drawn0 w w':=by
 have HR0:=am_ hr0;have HC0:=am_ hc0;clear hr0 hc0;have H : (laws_heldSlabS.l0 k l0 a1 0) = some r:=h;clear h;have H':=am_ H;clear H
 go_enter Tryd.func22,Tryd.ntmps22
 go_wp2
 go_loopg [1,5] k (fun kq v1 v5 w'=>∃ (x1_1 : Int) (x5_1 : Int),v1 = .int .i64 x1_1 ∧ v5 = .int .i64 x5_1 ∧ Aside0 (laws_heldSlabS.l0 kq l0 x1_1 x5_1 = some r) ∧ Aside0 (kq≤k) ∧ Drawn0 w w')
 case atStart=>exact ⟨(a1),(0),(by first|rfl|(simp;done)|(simp [*];done)),(by first|rfl|(simp;done)|(simp [*];done)),H',⟨Nat.le_refl _⟩,by repeat (first|exact Drawn0.refl _|apply Drawn0.step)⟩
 case round =>
  clear H';(try clear c2);(try clear p2);obtain ⟨x1_1,x5_1,rfl,rfl,HA,HK1,⟨m1,rfl⟩⟩:=hrel
  cases gk with
  | zero=>exact absurd HA.out (by simp [laws_heldSlabS.l0])
  | succ k1 =>
   have H:=HA.out;clear HA;simp only [laws_heldSlabS.l0] at H
   by_cases c3 : x5_1 < (l0.length : Int)
   ·
    rw [if_pos c3] at H;have c3b0 : decide (x5_1 < (l0.length : Int)) = true:=decide_eq_true c3;clear c3
    by_cases c4 : 0≤x5_1
    ·
     rw [if_pos c4] at H;have c4b0 : decide (0≤x5_1) = true:=decide_eq_true c4;clear c4
     by_cases c5 : ((rd_T36 l0 x5_1).f0) = (IntKind.i8.wrap (x1_1))
     ·
      rw [if_pos c5] at H;have c5b0 : (((rd_T36 l0 x5_1).f0) == (IntKind.i8.wrap (x1_1))) = true:=beq_iff_eq.mpr c5;have c5b1 : (((rd_T36 l0 x5_1).f0) != (IntKind.i8.wrap (x1_1))) = false:=bne_eq_false_iff_eq.mpr c5;clear c5
      by_cases c6 : ((rd_T36 l0 x5_1).f1) = (IntKind.i8.wrap (wrap64 (x1_1 + 1)))
      ·
       rw [if_pos c6] at H;have c6b0 : (((rd_T36 l0 x5_1).f1) == (IntKind.i8.wrap (wrap64 (x1_1 + 1)))) = true:=beq_iff_eq.mpr c6;have c6b1 : (((rd_T36 l0 x5_1).f1) != (IntKind.i8.wrap (wrap64 (x1_1 + 1)))) = false:=bne_eq_false_iff_eq.mpr c6;clear c6
       by_cases c7 : ((rd_T36 l0 x5_1).f2) = (IntKind.i8.wrap (wrap64 ((wrap64 (x1_1 + 1)) + 1)))
       ·
        rw [if_pos c7] at H;have c7b0 : (((rd_T36 l0 x5_1).f2) == (IntKind.i8.wrap (wrap64 ((wrap64 (x1_1 + 1)) + 1)))) = true:=beq_iff_eq.mpr c7;have c7b1 : (((rd_T36 l0 x5_1).f2) != (IntKind.i8.wrap (wrap64 ((wrap64 (x1_1 + 1)) + 1)))) = false:=bne_eq_false_iff_eq.mpr c7;clear c7
        by_cases c8 : ((rd_T36 l0 x5_1).f3) = (IntKind.i8.wrap (wrap64 ((wrap64 ((wrap64 (x1_1 + 1)) + 1)) + 1)))
        ·
         rw [if_pos c8] at H;have c8b0 : (((rd_T36 l0 x5_1).f3) == (IntKind.i8.wrap (wrap64 ((wrap64 ((wrap64 (x1_1 + 1)) + 1)) + 1)))) = true:=beq_iff_eq.mpr c8;have c8b1 : (((rd_T36 l0 x5_1).f3) != (IntKind.i8.wrap (wrap64 ((wrap64 ((wrap64 (x1_1 + 1)) + 1)) + 1)))) = false:=bne_eq_false_iff_eq.mpr c8;clear c8;have H':=am_ H;clear H;have p283 : 0≤(x5_1 : Int):=od_ (by first|(with_reducible assumption)|assumption);have q283 : x5_1 < (l0.length : Int):=od_ (by first|(with_reducible assumption)|assumption);obtain ⟨ad283,e283,hx283_0,hx283_1,hx283_2,hx283_3⟩:=at_T36 HR0.out x5_1 p283 q283
         cases e283
         replace p283:=eq_true p283;replace q283:=eq_true q283;have p284 : 0≤(x5_1 : Int):=od_ (by first|(with_reducible assumption)|assumption);have q284 : x5_1 < (l0.length : Int):=od_ (by first|(with_reducible assumption)|assumption);obtain ⟨ad284,e284,hx284_0,hx284_1,hx284_2,hx284_3⟩:=at_T36 HR0.out x5_1 p284 q284;obtain rfl : ad283 = ad284:=(by injection e284)
         replace p284:=eq_true p284;replace q284:=eq_true q284;have p285 : 0≤(x5_1 : Int):=od_ (by first|(with_reducible assumption)|assumption);have q285 : x5_1 < (l0.length : Int):=od_ (by first|(with_reducible assumption)|assumption);obtain ⟨ad285,e285,hx285_0,hx285_1,hx285_2,hx285_3⟩:=at_T36 HR0.out x5_1 p285 q285;obtain rfl : ad283 = ad285:=(by injection e285)
         replace p285:=eq_true p285;replace q285:=eq_true q285;have p286 : 0≤(x5_1 : Int):=od_ (by first|(with_reducible assumption)|assumption);have q286 : x5_1 < (l0.length : Int):=od_ (by first|(with_reducible assumption)|assumption);obtain ⟨ad286,e286,hx286_0,hx286_1,hx286_2,hx286_3⟩:=at_T36 HR0.out x5_1 p286 q286;obtain rfl : ad283 = ad286:=(by injection e286)
         replace p286:=eq_true p286;replace q286:=eq_true q286
         go_wp2
         go_roundg k1
         case measure=>have:=HK1.out;omega
         case rel=>exact ⟨(wrap64 ((wrap64 ((wrap64 ((wrap64 (x1_1 + 1)) + 1)) + 1)) + 1)),(wrap64 (x5_1 + 1)),(by first|rfl|(simp;done)|(simp [*];done)),(by first|rfl|(simp;done)|(simp [*];done)),H',⟨by have:=HK1.out;omega⟩,by repeat (first|exact Drawn0.refl _|apply Drawn0.step)⟩
        ·
         rw [if_neg c8] at H;have c8b0 : (((rd_T36 l0 x5_1).f3) == (IntKind.i8.wrap (wrap64 ((wrap64 ((wrap64 (x1_1 + 1)) + 1)) + 1)))) = false:=beq_eq_false_iff_ne.mpr c8;have c8b1 : (((rd_T36 l0 x5_1).f3) != (IntKind.i8.wrap (wrap64 ((wrap64 ((wrap64 (x1_1 + 1)) + 1)) + 1)))) = true:=bne_iff_ne.mpr c8;obtain rfl:=Option.some.inj H;have p283 : 0≤(x5_1 : Int):=od_ (by first|(with_reducible assumption)|assumption);have q283 : x5_1 < (l0.length : Int):=od_ (by first|(with_reducible assumption)|assumption);obtain ⟨ad283,e283,hx283_0,hx283_1,hx283_2,hx283_3⟩:=at_T36 HR0.out x5_1 p283 q283
         cases e283
         replace p283:=eq_true p283;replace q283:=eq_true q283;have p284 : 0≤(x5_1 : Int):=od_ (by first|(with_reducible assumption)|assumption);have q284 : x5_1 < (l0.length : Int):=od_ (by first|(with_reducible assumption)|assumption);obtain ⟨ad284,e284,hx284_0,hx284_1,hx284_2,hx284_3⟩:=at_T36 HR0.out x5_1 p284 q284;obtain rfl : ad283 = ad284:=(by injection e284)
         replace p284:=eq_true p284;replace q284:=eq_true q284;have p285 : 0≤(x5_1 : Int):=od_ (by first|(with_reducible assumption)|assumption);have q285 : x5_1 < (l0.length : Int):=od_ (by first|(with_reducible assumption)|assumption);obtain ⟨ad285,e285,hx285_0,hx285_1,hx285_2,hx285_3⟩:=at_T36 HR0.out x5_1 p285 q285;obtain rfl : ad283 = ad285:=(by injection e285)
         replace p285:=eq_true p285;replace q285:=eq_true q285;have p286 : 0≤(x5_1 : Int):=od_ (by first|(with_reducible assumption)|assumption);have q286 : x5_1 < (l0.length : Int):=od_ (by first|(with_reducible assumption)|assumption);obtain ⟨ad286,e286,hx286_0,hx286_1,hx286_2,hx286_3⟩:=at_T36 HR0.out x5_1 p286 q286;obtain rfl : ad283 = ad286:=(by injection e286)
         replace p286:=eq_true p286;replace q286:=eq_true q286
         go_wp2
         go_ret
         exact ⟨by first|rfl|(simp;done)|(simp [*];done),by repeat (first|exact Drawn0.refl _|apply Drawn0.step)⟩
       ·
        rw [if_neg c7] at H;have c7b0 : (((rd_T36 l0 x5_1).f2) == (IntKind.i8.wrap (wrap64 ((wrap64 (x1_1 + 1)) + 1)))) = false:=beq_eq_false_iff_ne.mpr c7;have c7b1 : (((rd_T36 l0 x5_1).f2) != (IntKind.i8.wrap (wrap64 ((wrap64 (x1_1 + 1)) + 1)))) = true:=bne_iff_ne.mpr c7;obtain rfl:=Option.some.inj H;have p283 : 0≤(x5_1 : Int):=od_ (by first|(with_reducible assumption)|assumption);have q283 : x5_1 < (l0.length : Int):=od_ (by first|(with_reducible assumption)|assumption);obtain ⟨ad283,e283,hx283_0,hx283_1,hx283_2,hx283_3⟩:=at_T36 HR0.out x5_1 p283 q283
        cases e283
        replace p283:=eq_true p283;replace q283:=eq_true q283;have p284 : 0≤(x5_1 : Int):=od_ (by first|(with_reducible assumption)|assumption);have q284 : x5_1 < (l0.length : Int):=od_ (by first|(with_reducible assumption)|assumption);obtain ⟨ad284,e284,hx284_0,hx284_1,hx284_2,hx284_3⟩:=at_T36 HR0.out x5_1 p284 q284;obtain rfl : ad283 = ad284:=(by injection e284)
        replace p284:=eq_true p284;replace q284:=eq_true q284;have p285 : 0≤(x5_1 : Int):=od_ (by first|(with_reducible assumption)|assumption);have q285 : x5_1 < (l0.length : Int):=od_ (by first|(with_reducible assumption)|assumption);obtain ⟨ad285,e285,hx285_0,hx285_1,hx285_2,hx285_3⟩:=at_T36 HR0.out x5_1 p285 q285;obtain rfl : ad283 = ad285:=(by injection e285)
        replace p285:=eq_true p285;replace q285:=eq_true q285
        go_wp2
        go_ret
        exact ⟨by first|rfl|(simp;done)|(simp [*];done),by repeat (first|exact Drawn0.refl _|apply Drawn0.step)⟩
      ·
       rw [if_neg c6] at H;have c6b0 : (((rd_T36 l0 x5_1).f1) == (IntKind.i8.wrap (wrap64 (x1_1 + 1)))) = false:=beq_eq_false_iff_ne.mpr c6;have c6b1 : (((rd_T36 l0 x5_1).f1) != (IntKind.i8.wrap (wrap64 (x1_1 + 1)))) = true:=bne_iff_ne.mpr c6;obtain rfl:=Option.some.inj H;have p283 : 0≤(x5_1 : Int):=od_ (by first|(with_reducible assumption)|assumption);have q283 : x5_1 < (l0.length : Int):=od_ (by first|(with_reducible assumption)|assumption);obtain ⟨ad283,e283,hx283_0,hx283_1,hx283_2,hx283_3⟩:=at_T36 HR0.out x5_1 p283 q283
       cases e283
       replace p283:=eq_true p283;replace q283:=eq_true q283;have p284 : 0≤(x5_1 : Int):=od_ (by first|(with_reducible assumption)|assumption);have q284 : x5_1 < (l0.length : Int):=od_ (by first|(with_reducible assumption)|assumption);obtain ⟨ad284,e284,hx284_0,hx284_1,hx284_2,hx284_3⟩:=at_T36 HR0.out x5_1 p284 q284;obtain rfl : ad283 = ad284:=(by injection e284)
       replace p284:=eq_true p284;replace q284:=eq_true q284
       go_wp2
       go_ret
       exact ⟨by first|rfl|(simp;done)|(simp [*];done),by repeat (first|exact Drawn0.refl _|apply Drawn0.step)⟩
     ·
      rw [if_neg c5] at H;have c5b0 : (((rd_T36 l0 x5_1).f0) == (IntKind.i8.wrap (x1_1))) = false:=beq_eq_false_iff_ne.mpr c5;have c5b1 : (((rd_T36 l0 x5_1).f0) != (IntKind.i8.wrap (x1_1))) = true:=bne_iff_ne.mpr c5;obtain rfl:=Option.some.inj H;have p283 : 0≤(x5_1 : Int):=od_ (by first|(with_reducible assumption)|assumption);have q283 : x5_1 < (l0.length : Int):=od_ (by first|(with_reducible assumption)|assumption);obtain ⟨ad283,e283,hx283_0,hx283_1,hx283_2,hx283_3⟩:=at_T36 HR0.out x5_1 p283 q283
      cases e283
      replace p283:=eq_true p283;replace q283:=eq_true q283
      go_wp2
      go_ret
      exact ⟨by first|rfl|(simp;done)|(simp [*];done),by repeat (first|exact Drawn0.refl _|apply Drawn0.step)⟩
    ·
     rw [if_neg c4] at H;exact absurd H (by simp)
   ·
    rw [if_neg c3] at H;have c3b0 : decide (x5_1 < (l0.length : Int)) = false:=decide_eq_false c3;clear c3;obtain rfl:=Option.some.inj H
    go_wp2
    go_ret
    exact ⟨by first|rfl|(simp;done)|(simp [*];done),by repeat (first|exact Drawn0.refl _|apply Drawn0.step)⟩
end Go.Proofs.YteinapckfhpdkaaDoor.Q
