-- Trimmed by a program of this session's.
import Derived.Test.YtjadgmafgkoanaaXQ0
namespace Go.Proofs.Ytjadgmafgkoanaa.Q
open Go.RowKit Go.Proofs.YtjadgmafgkoanaaW.PrintWords Go.Proofs.YtjadgmafgkoanaaW.PrintLast Go.Proofs.YtjadgmafgkoanaaW.PrintMore
attribute [local go_sem] max2_int min2_int max_two min_two max_three min_three max_four min_four
set_option linter.unusedVariables false
set_option linter.unusedSimpArgs false
def impl_Slab_meets.f (a0_0 : Int) (a0_1 : Int) (a0_2 : Int) (a0_3 : Int) (a1_0 : Int) (a1_1 : Int) (a1_2 : Int) (a1_3 : Int) : Option (Bool) := if (wrap64 (a0_0)) < (wrap64 ((wrap64 (a1_0)) + (wrap64 (a1_2)))) then (if (wrap64 (a1_0)) < (wrap64 ((wrap64 (a0_0)) + (wrap64 (a0_2)))) then (if (wrap64 (a0_1)) < (wrap64 ((wrap64 (a1_1)) + (wrap64 (a1_3)))) then (some (decide ((wrap64 (a1_1)) < (wrap64 ((wrap64 (a0_1)) + (wrap64 (a0_3))))))) else (some false)) else (some false)) else (some false)
set_option maxHeartbeats 8000000 in
set_option maxRecDepth 100000 in
theorem impl_Slab_meets.calls (a0_0 : Int) (a0_1 : Int) (a0_2 : Int) (a0_3 : Int) (a1_0 : Int) (a1_1 : Int) (a1_2 : Int) (a1_3 : Int) (r : Bool) (w : World) (h : impl_Slab_meets.f a0_0 a0_1 a0_2 a0_3 a1_0 a1_1 a1_2 a1_3 = some r) :
  Calls Try.prog 70 #[.agg #[.int .i8 a0_0,.int .i8 a0_1,.int .i8 a0_2,.int .i8 a0_3],.agg #[.int .i8 a1_0,.int .i8 a1_1,.int .i8 a1_2,.int .i8 a1_3]] w fun e w'=>e = .returned (.bool r) ∧ Below w.heap.size w w':=by
 have hu49:=Try.underlying49;have HB:=am_ (Below.refl w.heap.size w);have H : (if (wrap64 (a0_0)) < (wrap64 ((wrap64 (a1_0)) + (wrap64 (a1_2)))) then (if (wrap64 (a1_0)) < (wrap64 ((wrap64 (a0_0)) + (wrap64 (a0_2)))) then (if (wrap64 (a0_1)) < (wrap64 ((wrap64 (a1_1)) + (wrap64 (a1_3)))) then (some (decide ((wrap64 (a1_1)) < (wrap64 ((wrap64 (a0_1)) + (wrap64 (a0_3))))))) else (some false)) else (some false)) else (some false)) = some r:=h;clear h
 by_cases c3 : (wrap64 (a0_0)) < (wrap64 ((wrap64 (a1_0)) + (wrap64 (a1_2))))
 ·
  rw [if_pos c3] at H;have c3b0 : decide ((wrap64 (a0_0)) < (wrap64 ((wrap64 (a1_0)) + (wrap64 (a1_2))))) = true:=decide_eq_true c3;clear c3
  by_cases c4 : (wrap64 (a1_0)) < (wrap64 ((wrap64 (a0_0)) + (wrap64 (a0_2))))
  ·
   rw [if_pos c4] at H;have c4b0 : decide ((wrap64 (a1_0)) < (wrap64 ((wrap64 (a0_0)) + (wrap64 (a0_2))))) = true:=decide_eq_true c4;clear c4
   by_cases c5 : (wrap64 (a0_1)) < (wrap64 ((wrap64 (a1_1)) + (wrap64 (a1_3))))
   ·
    rw [if_pos c5] at H;have c5b0 : decide ((wrap64 (a0_1)) < (wrap64 ((wrap64 (a1_1)) + (wrap64 (a1_3))))) = true:=decide_eq_true c5;clear c5;obtain rfl:=Option.some.inj H
    go_enter Try.func70,Try.ntmps70
    go_wp2_with (first|((with_reducible refine gate_dst (N:=2) rfl ?_);refine box_event ?hg (N:=2) ?hd (cs:=#[.int .i8 a0_0,.int .i8 a0_1,.int .i8 a0_2,.int .i8 a0_3]) (t:=49) ?hr ?_;(case hd=>rfl);(case hg=>rfl);(case hr=>first|(go_simp;done)|(go_simp;rfl));intro gb317 hg w6 hbox hb;have n0_:=am_ (bT_ HB.out hb);have n1_:=am_ (hbox);have n2_:=am_ ((by rw [hg];exact (bZ_ HB.out) : w.heap.size≤gb317));have n3_:=n2_;clear HB;have HB:=n0_;have BK317:=n1_;have GW317:=n2_;have GE317:=n3_;clear n0_ n1_ n2_ n3_;clear hb hbox hg)|((with_reducible refine gate_dst (N:=3) rfl ?_);refine box_event ?hg (N:=3) ?hd (cs:=#[.int .i8 a1_0,.int .i8 a1_1,.int .i8 a1_2,.int .i8 a1_3]) (t:=49) ?hr ?_;(case hd=>rfl);(case hg=>rfl);(case hr=>first|(go_simp;done)|(go_simp;rfl));intro gb318 hg w7 hbox hb;have n0_:=am_ (kB_ BK317.out hb);have n1_:=am_ (bT_ HB.out hb);have n2_:=am_ (hbox);have n3_:=am_ ((by rw [hg];exact (bZ_ HB.out) : w.heap.size≤gb318));have n4_:=n3_;have n5_:=am_ ((by rw [hg];exact nL_ (kL_ BK317.out) : gb317 ≠ gb318));have n6_:=am_ ((by rw [hg];exact nG_ (kL_ BK317.out) : gb318 ≠ gb317));clear BK317;clear HB;have BK317:=n0_;have HB:=n1_;have BK318:=n2_;have GW318:=n3_;have GE318:=n4_;have NB317_318:=n5_;have NB318_317:=n6_;clear n0_ n1_ n2_ n3_ n4_ n5_ n6_;clear hb hbox hg;have hnb8:=NB317_318.out;have hnc8:=NB318_317.out;have hcz9_0 : w7.cell? ⟨gb317,0,none⟩ = some (.int .i8 a0_0):=(kC_ BK317.out 0).trans rfl;have hcz9_1 : w7.cell? ⟨gb317,1,none⟩ = some (.int .i8 a0_1):=(kC_ BK317.out 1).trans rfl;have hcz9_2 : w7.cell? ⟨gb317,2,none⟩ = some (.int .i8 a0_2):=(kC_ BK317.out 2).trans rfl;have hcz9_3 : w7.cell? ⟨gb317,3,none⟩ = some (.int .i8 a0_3):=(kC_ BK317.out 3).trans rfl;have hfz9_0:=kF_ BK317.out 0;have hfz9_1:=kF_ BK317.out 1;have hfz9_2:=kF_ BK317.out 2;have hfz9_3:=kF_ BK317.out 3;have hcz10_0 : w7.cell? ⟨gb318,0,none⟩ = some (.int .i8 a1_0):=(kC_ BK318.out 0).trans rfl;have hcz10_1 : w7.cell? ⟨gb318,1,none⟩ = some (.int .i8 a1_1):=(kC_ BK318.out 1).trans rfl;have hcz10_2 : w7.cell? ⟨gb318,2,none⟩ = some (.int .i8 a1_2):=(kC_ BK318.out 2).trans rfl;have hcz10_3 : w7.cell? ⟨gb318,3,none⟩ = some (.int .i8 a1_3):=(kC_ BK318.out 3).trans rfl;have hfz10_0:=kF_ BK318.out 0;have hfz10_1:=kF_ BK318.out 1;have hfz10_2:=kF_ BK318.out 2;have hfz10_3:=kF_ BK318.out 3))
    go_ret
    exact ⟨by first|rfl|(simp [errW_none,errW_some] <;> rfl)|(simp [*,errW_none,errW_some] <;> rfl),by repeat (first|(with_reducible first|exact HB.out|apply bA_|apply bN_|apply bD_|refine bS_ ?_ GE317.out|refine bS_ ?_ GE318.out)|exact HB.out)⟩
   ·
    rw [if_neg c5] at H;have c5b0 : decide ((wrap64 (a0_1)) < (wrap64 ((wrap64 (a1_1)) + (wrap64 (a1_3))))) = false:=decide_eq_false c5;clear c5;obtain rfl:=Option.some.inj H
    go_enter Try.func70,Try.ntmps70
    go_wp2_with (first|((with_reducible refine gate_dst (N:=2) rfl ?_);refine box_event ?hg (N:=2) ?hd (cs:=#[.int .i8 a0_0,.int .i8 a0_1,.int .i8 a0_2,.int .i8 a0_3]) (t:=49) ?hr ?_;(case hd=>rfl);(case hg=>rfl);(case hr=>first|(go_simp;done)|(go_simp;rfl));intro gb317 hg w11 hbox hb;have n0_:=am_ (bT_ HB.out hb);have n1_:=am_ (hbox);have n2_:=am_ ((by rw [hg];exact (bZ_ HB.out) : w.heap.size≤gb317));have n3_:=n2_;clear HB;have HB:=n0_;have BK317:=n1_;have GW317:=n2_;have GE317:=n3_;clear n0_ n1_ n2_ n3_;clear hb hbox hg)|((with_reducible refine gate_dst (N:=3) rfl ?_);refine box_event ?hg (N:=3) ?hd (cs:=#[.int .i8 a1_0,.int .i8 a1_1,.int .i8 a1_2,.int .i8 a1_3]) (t:=49) ?hr ?_;(case hd=>rfl);(case hg=>rfl);(case hr=>first|(go_simp;done)|(go_simp;rfl));intro gb318 hg w12 hbox hb;have n0_:=am_ (kB_ BK317.out hb);have n1_:=am_ (bT_ HB.out hb);have n2_:=am_ (hbox);have n3_:=am_ ((by rw [hg];exact (bZ_ HB.out) : w.heap.size≤gb318));have n4_:=n3_;have n5_:=am_ ((by rw [hg];exact nL_ (kL_ BK317.out) : gb317 ≠ gb318));have n6_:=am_ ((by rw [hg];exact nG_ (kL_ BK317.out) : gb318 ≠ gb317));clear BK317;clear HB;have BK317:=n0_;have HB:=n1_;have BK318:=n2_;have GW318:=n3_;have GE318:=n4_;have NB317_318:=n5_;have NB318_317:=n6_;clear n0_ n1_ n2_ n3_ n4_ n5_ n6_;clear hb hbox hg;have hnb13:=NB317_318.out;have hnc13:=NB318_317.out;have hcz14_0 : w12.cell? ⟨gb317,0,none⟩ = some (.int .i8 a0_0):=(kC_ BK317.out 0).trans rfl;have hcz14_1 : w12.cell? ⟨gb317,1,none⟩ = some (.int .i8 a0_1):=(kC_ BK317.out 1).trans rfl;have hcz14_2 : w12.cell? ⟨gb317,2,none⟩ = some (.int .i8 a0_2):=(kC_ BK317.out 2).trans rfl;have hcz14_3 : w12.cell? ⟨gb317,3,none⟩ = some (.int .i8 a0_3):=(kC_ BK317.out 3).trans rfl;have hfz14_0:=kF_ BK317.out 0;have hfz14_1:=kF_ BK317.out 1;have hfz14_2:=kF_ BK317.out 2;have hfz14_3:=kF_ BK317.out 3;have hcz15_0 : w12.cell? ⟨gb318,0,none⟩ = some (.int .i8 a1_0):=(kC_ BK318.out 0).trans rfl;have hcz15_1 : w12.cell? ⟨gb318,1,none⟩ = some (.int .i8 a1_1):=(kC_ BK318.out 1).trans rfl;have hcz15_2 : w12.cell? ⟨gb318,2,none⟩ = some (.int .i8 a1_2):=(kC_ BK318.out 2).trans rfl;have hcz15_3 : w12.cell? ⟨gb318,3,none⟩ = some (.int .i8 a1_3):=(kC_ BK318.out 3).trans rfl;have hfz15_0:=kF_ BK318.out 0;have hfz15_1:=kF_ BK318.out 1;have hfz15_2:=kF_ BK318.out 2;have hfz15_3:=kF_ BK318.out 3))
    go_ret
    exact ⟨by first|rfl|(simp [errW_none,errW_some] <;> rfl)|(simp [*,errW_none,errW_some] <;> rfl),by repeat (first|(with_reducible first|exact HB.out|apply bA_|apply bN_|apply bD_|refine bS_ ?_ GE317.out|refine bS_ ?_ GE318.out)|exact HB.out)⟩
  ·
   rw [if_neg c4] at H;have c4b0 : decide ((wrap64 (a1_0)) < (wrap64 ((wrap64 (a0_0)) + (wrap64 (a0_2))))) = false:=decide_eq_false c4;clear c4;obtain rfl:=Option.some.inj H
   go_enter Try.func70,Try.ntmps70
   go_wp2_with (first|((with_reducible refine gate_dst (N:=2) rfl ?_);refine box_event ?hg (N:=2) ?hd (cs:=#[.int .i8 a0_0,.int .i8 a0_1,.int .i8 a0_2,.int .i8 a0_3]) (t:=49) ?hr ?_;(case hd=>rfl);(case hg=>rfl);(case hr=>first|(go_simp;done)|(go_simp;rfl));intro gb317 hg w16 hbox hb;have n0_:=am_ (bT_ HB.out hb);have n1_:=am_ (hbox);have n2_:=am_ ((by rw [hg];exact (bZ_ HB.out) : w.heap.size≤gb317));have n3_:=n2_;clear HB;have HB:=n0_;have BK317:=n1_;have GW317:=n2_;have GE317:=n3_;clear n0_ n1_ n2_ n3_;clear hb hbox hg)|((with_reducible refine gate_dst (N:=3) rfl ?_);refine box_event ?hg (N:=3) ?hd (cs:=#[.int .i8 a1_0,.int .i8 a1_1,.int .i8 a1_2,.int .i8 a1_3]) (t:=49) ?hr ?_;(case hd=>rfl);(case hg=>rfl);(case hr=>first|(go_simp;done)|(go_simp;rfl));intro gb318 hg w17 hbox hb;have n0_:=am_ (kB_ BK317.out hb);have n1_:=am_ (bT_ HB.out hb);have n2_:=am_ (hbox);have n3_:=am_ ((by rw [hg];exact (bZ_ HB.out) : w.heap.size≤gb318));have n4_:=n3_;have n5_:=am_ ((by rw [hg];exact nL_ (kL_ BK317.out) : gb317 ≠ gb318));have n6_:=am_ ((by rw [hg];exact nG_ (kL_ BK317.out) : gb318 ≠ gb317));clear BK317;clear HB;have BK317:=n0_;have HB:=n1_;have BK318:=n2_;have GW318:=n3_;have GE318:=n4_;have NB317_318:=n5_;have NB318_317:=n6_;clear n0_ n1_ n2_ n3_ n4_ n5_ n6_;clear hb hbox hg;have hnb18:=NB317_318.out;have hnc18:=NB318_317.out;have hcz19_0 : w17.cell? ⟨gb317,0,none⟩ = some (.int .i8 a0_0):=(kC_ BK317.out 0).trans rfl;have hcz19_1 : w17.cell? ⟨gb317,1,none⟩ = some (.int .i8 a0_1):=(kC_ BK317.out 1).trans rfl;have hcz19_2 : w17.cell? ⟨gb317,2,none⟩ = some (.int .i8 a0_2):=(kC_ BK317.out 2).trans rfl;have hcz19_3 : w17.cell? ⟨gb317,3,none⟩ = some (.int .i8 a0_3):=(kC_ BK317.out 3).trans rfl;have hfz19_0:=kF_ BK317.out 0;have hfz19_1:=kF_ BK317.out 1;have hfz19_2:=kF_ BK317.out 2;have hfz19_3:=kF_ BK317.out 3;have hcz20_0 : w17.cell? ⟨gb318,0,none⟩ = some (.int .i8 a1_0):=(kC_ BK318.out 0).trans rfl;have hcz20_1 : w17.cell? ⟨gb318,1,none⟩ = some (.int .i8 a1_1):=(kC_ BK318.out 1).trans rfl;have hcz20_2 : w17.cell? ⟨gb318,2,none⟩ = some (.int .i8 a1_2):=(kC_ BK318.out 2).trans rfl;have hcz20_3 : w17.cell? ⟨gb318,3,none⟩ = some (.int .i8 a1_3):=(kC_ BK318.out 3).trans rfl;have hfz20_0:=kF_ BK318.out 0;have hfz20_1:=kF_ BK318.out 1;have hfz20_2:=kF_ BK318.out 2;have hfz20_3:=kF_ BK318.out 3))
   go_ret
   exact ⟨by first|rfl|(simp [errW_none,errW_some] <;> rfl)|(simp [*,errW_none,errW_some] <;> rfl),by repeat (first|(with_reducible first|exact HB.out|apply bA_|apply bN_|apply bD_|refine bS_ ?_ GE317.out|refine bS_ ?_ GE318.out)|exact HB.out)⟩
 ·
  rw [if_neg c3] at H;have c3b0 : decide ((wrap64 (a0_0)) < (wrap64 ((wrap64 (a1_0)) + (wrap64 (a1_2))))) = false:=decide_eq_false c3;clear c3;obtain rfl:=Option.some.inj H
  go_enter Try.func70,Try.ntmps70
  go_wp2_with (first|((with_reducible refine gate_dst (N:=2) rfl ?_);refine box_event ?hg (N:=2) ?hd (cs:=#[.int .i8 a0_0,.int .i8 a0_1,.int .i8 a0_2,.int .i8 a0_3]) (t:=49) ?hr ?_;(case hd=>rfl);(case hg=>rfl);(case hr=>first|(go_simp;done)|(go_simp;rfl));intro gb317 hg w21 hbox hb;have n0_:=am_ (bT_ HB.out hb);have n1_:=am_ (hbox);have n2_:=am_ ((by rw [hg];exact (bZ_ HB.out) : w.heap.size≤gb317));have n3_:=n2_;clear HB;have HB:=n0_;have BK317:=n1_;have GW317:=n2_;have GE317:=n3_;clear n0_ n1_ n2_ n3_;clear hb hbox hg)|((with_reducible refine gate_dst (N:=3) rfl ?_);refine box_event ?hg (N:=3) ?hd (cs:=#[.int .i8 a1_0,.int .i8 a1_1,.int .i8 a1_2,.int .i8 a1_3]) (t:=49) ?hr ?_;(case hd=>rfl);(case hg=>rfl);(case hr=>first|(go_simp;done)|(go_simp;rfl));intro gb318 hg w22 hbox hb;have n0_:=am_ (kB_ BK317.out hb);have n1_:=am_ (bT_ HB.out hb);have n2_:=am_ (hbox);have n3_:=am_ ((by rw [hg];exact (bZ_ HB.out) : w.heap.size≤gb318));have n4_:=n3_;have n5_:=am_ ((by rw [hg];exact nL_ (kL_ BK317.out) : gb317 ≠ gb318));have n6_:=am_ ((by rw [hg];exact nG_ (kL_ BK317.out) : gb318 ≠ gb317));clear BK317;clear HB;have BK317:=n0_;have HB:=n1_;have BK318:=n2_;have GW318:=n3_;have GE318:=n4_;have NB317_318:=n5_;have NB318_317:=n6_;clear n0_ n1_ n2_ n3_ n4_ n5_ n6_;clear hb hbox hg;have hnb23:=NB317_318.out;have hnc23:=NB318_317.out;have hcz24_0 : w22.cell? ⟨gb317,0,none⟩ = some (.int .i8 a0_0):=(kC_ BK317.out 0).trans rfl;have hcz24_1 : w22.cell? ⟨gb317,1,none⟩ = some (.int .i8 a0_1):=(kC_ BK317.out 1).trans rfl;have hcz24_2 : w22.cell? ⟨gb317,2,none⟩ = some (.int .i8 a0_2):=(kC_ BK317.out 2).trans rfl;have hcz24_3 : w22.cell? ⟨gb317,3,none⟩ = some (.int .i8 a0_3):=(kC_ BK317.out 3).trans rfl;have hfz24_0:=kF_ BK317.out 0;have hfz24_1:=kF_ BK317.out 1;have hfz24_2:=kF_ BK317.out 2;have hfz24_3:=kF_ BK317.out 3;have hcz25_0 : w22.cell? ⟨gb318,0,none⟩ = some (.int .i8 a1_0):=(kC_ BK318.out 0).trans rfl;have hcz25_1 : w22.cell? ⟨gb318,1,none⟩ = some (.int .i8 a1_1):=(kC_ BK318.out 1).trans rfl;have hcz25_2 : w22.cell? ⟨gb318,2,none⟩ = some (.int .i8 a1_2):=(kC_ BK318.out 2).trans rfl;have hcz25_3 : w22.cell? ⟨gb318,3,none⟩ = some (.int .i8 a1_3):=(kC_ BK318.out 3).trans rfl;have hfz25_0:=kF_ BK318.out 0;have hfz25_1:=kF_ BK318.out 1;have hfz25_2:=kF_ BK318.out 2;have hfz25_3:=kF_ BK318.out 3))
  go_ret
  exact ⟨by first|rfl|(simp [errW_none,errW_some] <;> rfl)|(simp [*,errW_none,errW_some] <;> rfl),by repeat (first|(with_reducible first|exact HB.out|apply bA_|apply bN_|apply bD_|refine bS_ ?_ GE317.out|refine bS_ ?_ GE318.out)|exact HB.out)⟩
def impl_within.f (a0 : Int) (a1 : Int) (a2 : Int) : Option (Bool) := if a1 ≤ a0 then (some (decide (a0 ≤ a2))) else (some false)
set_option maxHeartbeats 8000000 in
set_option maxRecDepth 100000 in
theorem impl_within.calls (a0 : Int) (a1 : Int) (a2 : Int) (r : Bool) (w : World) (h : impl_within.f a0 a1 a2 = some r) :
  Calls Try.prog 93 #[.int .i64 a0,.int .i64 a1,.int .i64 a2] w fun e w'=>e = .returned (.bool r) ∧ Drawn0 w w':=by
 have H : (if a1≤a0 then (some (decide (a0≤a2))) else (some false)) = some r:=h;clear h
 by_cases c4 : a1≤a0
 ·
  rw [if_pos c4] at H;have c4b0 : decide (a1≤a0) = true:=decide_eq_true c4;clear c4;obtain rfl:=Option.some.inj H
  go_enter Try.func93,Try.ntmps93
  go_wp2
  go_ret
  exact ⟨by first|rfl|(simp;done)|(simp [*];done),by repeat (first|exact Drawn0.refl _|apply Drawn0.step)⟩
 ·
  rw [if_neg c4] at H;have c4b0 : decide (a1≤a0) = false:=decide_eq_false c4;clear c4;obtain rfl:=Option.some.inj H
  go_enter Try.func93,Try.ntmps93
  go_wp2
  go_ret
  exact ⟨by first|rfl|(simp;done)|(simp [*];done),by repeat (first|exact Drawn0.refl _|apply Drawn0.step)⟩
def impl_isEdge.f (a0 : Int) : Option (Bool) := (impl_within.f a0 1 12).bind fun t319 => (some t319)
set_option maxHeartbeats 8000000 in
set_option maxRecDepth 100000 in
theorem impl_isEdge.calls (a0 : Int) (r : Bool) (w : World) (h : impl_isEdge.f a0 = some r) :
  Calls Try.prog 83 #[.int .i64 a0] w fun e w'=>e = .returned (.bool r) ∧ Drawn0 w w':=by
 have H : ((impl_within.f a0 1 12).bind fun t319=>(some t319)) = some r:=h;clear h;replace H:=Option.bind_eq_some_iff.mp H;obtain ⟨t319,A20,H⟩:=H;replace H : (some t319) = some r:=H;have A2:=am_ A20;clear A20;obtain rfl:=Option.some.inj H
 go_enter Try.func83,Try.ntmps83
 go_wp2_with (first|((with_reducible refine gate_callee (f:=93) rfl ?_);refine goesL_ (some 4) rfl rfl Try.func93 (by kernel_rfl) rfl #[.int .i64 a0,.int .i64 1,.int .i64 12] rfl (by (try simp only [List.map_toArray,List.map_cons,List.map_nil]);first|done|rfl|(simp only [List.length_drop,List.length_take];rfl)) ?_;(with_reducible refine (impl_within.calls a0 1 12 t319 _ A2.out).mono ?_);rintro e w' ⟨rfl,⟨nd,rfl⟩⟩;refine ⟨_,rfl,?_⟩))
 go_ret
 exact ⟨by first|rfl|(simp;done)|(simp [*];done),by repeat (first|exact Drawn0.refl _|apply Drawn0.step)⟩
def slices_IndexFunc_impl_Slab_at_impl_Slab_meets.l0 : Nat → List (S49) → Int → Int → Int → Int → Int → Int → Option (Int)
 | 0,_,_,_,_,_,_,_=>none
 | k + 1,x0,x7,x8,x2000,x2001,x2002,x2003=>if x8 < x7 then (if 0≤x8 then (if x8 < (x0.length : Int) then ((impl_Slab_meets.f x2000 x2001 x2002 x2003 ((rd_T49 x0 x8).f0) ((rd_T49 x0 x8).f1) ((rd_T49 x0 x8).f2) ((rd_T49 x0 x8).f3)).bind fun t331=>(if t331 = true then (some x8) else (slices_IndexFunc_impl_Slab_at_impl_Slab_meets.l0 k x0 x7 (wrap64 (x8 + 1)) x2000 x2001 x2002 x2003))) else (none)) else (none)) else (some (-1))
def slices_IndexFunc_impl_Slab_at_impl_Slab_meets.f (k : Nat) (l0 : List (S49)) (a1_0 : Int) (a1_1 : Int) (a1_2 : Int) (a1_3 : Int) : Option (Int) := slices_IndexFunc_impl_Slab_at_impl_Slab_meets.l0 k l0 (l0.length : Int) 0 a1_0 a1_1 a1_2 a1_3
theorem slices_IndexFunc_impl_Slab_at_impl_Slab_meets.mono_l : ∀ k, (∀ y0 y1 y2 y3 y4 y5 y6, LeO (slices_IndexFunc_impl_Slab_at_impl_Slab_meets.l0 k y0 y1 y2 y3 y4 y5 y6) (slices_IndexFunc_impl_Slab_at_impl_Slab_meets.l0 (k + 1) y0 y1 y2 y3 y4 y5 y6))
 | 0=>fun _ _ _ _ _ _ _ r h=>by simp [slices_IndexFunc_impl_Slab_at_impl_Slab_meets.l0] at h
 | k + 1=>by
  have ih0:=slices_IndexFunc_impl_Slab_at_impl_Slab_meets.mono_l k
  ·
   intro y0 y1 y2 y3 y4 y5 y6
   unfold slices_IndexFunc_impl_Slab_at_impl_Slab_meets.l0
   repeat' first
   | (with_reducible exact ih0 _ _ _ _ _ _ _)
   | (with_reducible exact LeO.refl _)
   | (with_reducible exact LeO.none _)
   | (with_reducible refine LeO.ite ?_ ?_)
   | (with_reducible refine LeO.bind ?_ (fun _=>?_))
   | exact ih0 _ _ _ _ _ _ _
   | exact LeO.none _
   | refine LeO.ite ?_ ?_
   | refine LeO.bind ?_ (fun _=>?_)
theorem slices_IndexFunc_impl_Slab_at_impl_Slab_meets.mono : ∀ a0 a1 a2 a3 a4 k, LeO (slices_IndexFunc_impl_Slab_at_impl_Slab_meets.f k a0 a1 a2 a3 a4) (slices_IndexFunc_impl_Slab_at_impl_Slab_meets.f (k + 1) a0 a1 a2 a3 a4) := by
 intro a0 a1 a2 a3 a4 k;have ih0:=slices_IndexFunc_impl_Slab_at_impl_Slab_meets.mono_l k
 unfold slices_IndexFunc_impl_Slab_at_impl_Slab_meets.f
 repeat' first
   | (with_reducible exact ih0 _ _ _ _ _ _ _)
   | (with_reducible exact LeO.refl _)
   | (with_reducible exact LeO.none _)
   | (with_reducible refine LeO.ite ?_ ?_)
   | (with_reducible refine LeO.bind ?_ (fun _=>?_))
   | exact ih0 _ _ _ _ _ _ _
   | exact LeO.none _
   | refine LeO.ite ?_ ?_
   | refine LeO.bind ?_ (fun _=>?_)
set_option maxHeartbeats 8000000 in
set_option maxRecDepth 100000 in
theorem slices_IndexFunc_impl_Slab_at_impl_Slab_meets.calls (k : Nat) (A0 : Option Addr) (c0 : Nat) (l0 : List (S49)) (a1_0 : Int) (a1_1 : Int) (a1_2 : Int) (a1_3 : Int) (r : Int) (w : World) (hr0 : Kd.C k49 w A0 l0.length l0) (hc0 : l0.length ≤ c0) (h : slices_IndexFunc_impl_Slab_at_impl_Slab_meets.f k l0 a1_0 a1_1 a1_2 a1_3 = some r) :
  Calls Try.prog 97 #[.slice A0 l0.length c0,.func (.func 70) #[.agg #[.int .i8 a1_0,.int .i8 a1_1,.int .i8 a1_2,.int .i8 a1_3]] #[]] w fun e w'=>e = .returned (.int .i64 r) ∧ Below w.heap.size w w':=by
 have hu49:=Try.underlying49;have HR0:=am_ hr0;have HC0:=am_ hc0;clear hr0 hc0;have HB:=am_ (Below.refl w.heap.size w);have H : (slices_IndexFunc_impl_Slab_at_impl_Slab_meets.l0 k l0 (l0.length : Int) 0 a1_0 a1_1 a1_2 a1_3) = some r:=h;clear h;have H':=am_ H;clear H
 go_enter Try.func97,Try.ntmps97
 go_wp2
 go_loopg [8] k (fun kq v8 w'=>∃ (x8_1 : Int),v8 = .int .i64 x8_1 ∧ Aside0 (slices_IndexFunc_impl_Slab_at_impl_Slab_meets.l0 kq l0 (l0.length : Int) x8_1 a1_0 a1_1 a1_2 a1_3 = some r) ∧ Aside0 (kq≤k) ∧ Aside0 (Below w.heap.size w w'))
 case atStart=>exact ⟨(0),(by first|rfl|(simp;done)|(simp [*];done)),H',⟨Nat.le_refl _⟩,⟨by repeat (first|(with_reducible first|exact HB.out|apply bA_|apply bN_|apply bD_)|exact HB.out)⟩⟩
 case round =>
  clear H';(try clear c1);(try clear p2);obtain ⟨x8_1,rfl,HA,HK1,HB⟩:=hrel
  cases gk with
  | zero=>exact absurd HA.out (by simp [slices_IndexFunc_impl_Slab_at_impl_Slab_meets.l0])
  | succ k1 =>
   have H:=HA.out;clear HA;simp only [slices_IndexFunc_impl_Slab_at_impl_Slab_meets.l0] at H
   by_cases c3 : x8_1 < (l0.length : Int)
   ·
    rw [if_pos c3] at H;have c3b0 : decide (x8_1 < (l0.length : Int)) = true:=decide_eq_true c3;clear c3
    by_cases c4 : 0≤x8_1
    ·
     rw [if_pos c4] at H;have c4b0 : decide (0≤x8_1) = true:=decide_eq_true c4;clear c4
     by_cases c5 : x8_1 < (l0.length : Int)
     ·
      rw [if_pos c5] at H;have c5b0 : decide (x8_1 < (l0.length : Int)) = true:=decide_eq_true c5;clear c5;replace H:=Option.bind_eq_some_iff.mp H;obtain ⟨t331,A60,H⟩:=H;replace H : (if t331 = true then (some x8_1) else (slices_IndexFunc_impl_Slab_at_impl_Slab_meets.l0 k1 l0 (l0.length : Int) (wrap64 (x8_1 + 1)) a1_0 a1_1 a1_2 a1_3)) = some r:=H;have A6:=am_ A60;clear A60
      by_cases c7 : t331 = true
      ·
       subst c7;have H1 : (some x8_1) = some r:=by rw [if_pos rfl] at H;exact H
       clear H;have H:=H1;clear H1;obtain rfl:=Option.some.inj H;have p330 : 0≤(x8_1 : Int):=od_ (by first|(with_reducible assumption)|assumption);have q330 : x8_1 < (l0.length : Int):=od_ (by first|(with_reducible assumption)|assumption);obtain ⟨ad330,e330,hx330_0,hx330_1,hx330_2,hx330_3⟩:=at_T49 HR0.out x8_1 p330 q330
       cases e330
       replace hx330_0:=(HB.out.cell (bl_ w _ hx330_0)).trans hx330_0;replace hx330_1:=(HB.out.cell (bl_ w _ hx330_1)).trans hx330_1;replace hx330_2:=(HB.out.cell (bl_ w _ hx330_2)).trans hx330_2;replace hx330_3:=(HB.out.cell (bl_ w _ hx330_3)).trans hx330_3;replace p330:=eq_true p330;replace q330:=eq_true q330
       go_wp2_with (first|(go_at_call 70;(with_reducible refine (impl_Slab_meets.calls a1_0 a1_1 a1_2 a1_3 ((rd_T49 l0 x8_1).f0) ((rd_T49 l0 x8_1).f1) ((rd_T49 l0 x8_1).f2) ((rd_T49 l0 x8_1).f3) true _ A6.out).mono ?_);rintro e w8 ⟨rfl,hb⟩;have n0_:=am_ (bT_ HB.out hb);clear HB;have HB:=n0_;clear n0_;(try clear hb);(try clear hb2);(try clear hk);(try clear hi)))
       go_ret
       exact ⟨by first|rfl|(simp [errW_none,errW_some] <;> rfl)|(simp [*,errW_none,errW_some] <;> rfl),by repeat (first|(with_reducible first|exact HB.out|apply bA_|apply bN_|apply bD_)|exact HB.out)⟩
      ·
       replace c7:=Bool.eq_false_iff.mpr c7;subst c7;have H1 : (slices_IndexFunc_impl_Slab_at_impl_Slab_meets.l0 k1 l0 (l0.length : Int) (wrap64 (x8_1 + 1)) a1_0 a1_1 a1_2 a1_3) = some r:=by rw [if_neg (show ¬ (false = true) by decide)] at H;exact H
       clear H;have H:=H1;clear H1;have H':=am_ H;clear H;have p330 : 0≤(x8_1 : Int):=od_ (by first|(with_reducible assumption)|assumption);have q330 : x8_1 < (l0.length : Int):=od_ (by first|(with_reducible assumption)|assumption);obtain ⟨ad330,e330,hx330_0,hx330_1,hx330_2,hx330_3⟩:=at_T49 HR0.out x8_1 p330 q330
       cases e330
       replace hx330_0:=(HB.out.cell (bl_ w _ hx330_0)).trans hx330_0;replace hx330_1:=(HB.out.cell (bl_ w _ hx330_1)).trans hx330_1;replace hx330_2:=(HB.out.cell (bl_ w _ hx330_2)).trans hx330_2;replace hx330_3:=(HB.out.cell (bl_ w _ hx330_3)).trans hx330_3;replace p330:=eq_true p330;replace q330:=eq_true q330
       go_wp2_with (first|(go_at_call 70;(with_reducible refine (impl_Slab_meets.calls a1_0 a1_1 a1_2 a1_3 ((rd_T49 l0 x8_1).f0) ((rd_T49 l0 x8_1).f1) ((rd_T49 l0 x8_1).f2) ((rd_T49 l0 x8_1).f3) false _ A6.out).mono ?_);rintro e w9 ⟨rfl,hb⟩;have n0_:=am_ (bT_ HB.out hb);clear HB;have HB:=n0_;clear n0_;(try clear hb);(try clear hb2);(try clear hk);(try clear hi)))
       go_roundg k1
       case measure=>have:=HK1.out;omega
       case rel=>exact ⟨(wrap64 (x8_1 + 1)),(by first|rfl|(simp;done)|(simp [*];done)),H',⟨by have:=HK1.out;omega⟩,⟨by repeat (first|(with_reducible first|exact HB.out|apply bA_|apply bN_|apply bD_)|exact HB.out)⟩⟩
     · rw [if_neg c5] at H;exact absurd H (by simp)
    · rw [if_neg c4] at H;exact absurd H (by simp)
   ·
    rw [if_neg c3] at H;have c3b0 : decide (x8_1 < (l0.length : Int)) = false:=decide_eq_false c3;clear c3;obtain rfl:=Option.some.inj H
    go_wp2
    go_ret
    exact ⟨by first|rfl|(simp [errW_none,errW_some] <;> rfl)|(simp [*,errW_none,errW_some] <;> rfl),by repeat (first|(with_reducible first|exact HB.out|apply bA_|apply bN_|apply bD_)|exact HB.out)⟩
def slices_ContainsFunc_impl_Slab_at_impl_Slab_meets.f (k : Nat) (l0 : List (S49)) (a1_0 : Int) (a1_1 : Int) (a1_2 : Int) (a1_3 : Int) : Option (Bool) := (slices_IndexFunc_impl_Slab_at_impl_Slab_meets.f k l0 a1_0 a1_1 a1_2 a1_3).bind fun t332 => (some (decide (t332 ≥ 0)))
theorem slices_ContainsFunc_impl_Slab_at_impl_Slab_meets.mono : ∀ a0 a1 a2 a3 a4 k, LeO (slices_ContainsFunc_impl_Slab_at_impl_Slab_meets.f k a0 a1 a2 a3 a4) (slices_ContainsFunc_impl_Slab_at_impl_Slab_meets.f (k + 1) a0 a1 a2 a3 a4) := by
 intro a0 a1 a2 a3 a4 k
 unfold slices_ContainsFunc_impl_Slab_at_impl_Slab_meets.f
 repeat' first
   | (with_reducible exact slices_IndexFunc_impl_Slab_at_impl_Slab_meets.mono _ _ _ _ _ _)
   | (with_reducible exact LeO.refl _)
   | (with_reducible exact LeO.none _)
   | (with_reducible refine LeO.ite ?_ ?_)
   | (with_reducible refine LeO.bind ?_ (fun _=>?_))
   | exact slices_IndexFunc_impl_Slab_at_impl_Slab_meets.mono _ _ _ _ _ _
   | exact LeO.none _
   | refine LeO.ite ?_ ?_
   | refine LeO.bind ?_ (fun _=>?_)
set_option maxHeartbeats 8000000 in
set_option maxRecDepth 100000 in
theorem slices_ContainsFunc_impl_Slab_at_impl_Slab_meets.calls (k : Nat) (A0 : Option Addr) (c0 : Nat) (l0 : List (S49)) (a1_0 : Int) (a1_1 : Int) (a1_2 : Int) (a1_3 : Int) (r : Bool) (w : World) (hr0 : Kd.C k49 w A0 l0.length l0) (hc0 : l0.length ≤ c0) (h : slices_ContainsFunc_impl_Slab_at_impl_Slab_meets.f k l0 a1_0 a1_1 a1_2 a1_3 = some r) :
  Calls Try.prog 87 #[.slice A0 l0.length c0,.func (.func 70) #[.agg #[.int .i8 a1_0,.int .i8 a1_1,.int .i8 a1_2,.int .i8 a1_3]] #[]] w fun e w'=>e = .returned (.bool r) ∧ Below w.heap.size w w':=by
 have HR0:=am_ hr0;have HC0:=am_ hc0;clear hr0 hc0;have HB:=am_ (Below.refl w.heap.size w);have H : ((slices_IndexFunc_impl_Slab_at_impl_Slab_meets.f k l0 a1_0 a1_1 a1_2 a1_3).bind fun t332=>(some (decide (t332 ≥ 0)))) = some r:=h;clear h;replace H:=Option.bind_eq_some_iff.mp H;obtain ⟨t332,A30,H⟩:=H;replace H : (some (decide (t332 ≥ 0))) = some r:=H;have A3:=am_ A30;clear A30;obtain rfl:=Option.some.inj H
 go_enter Try.func87,Try.ntmps87
 go_wp2_with (first|((with_reducible refine gate_callee (f:=97) rfl ?_);refine goesL_ (some 7) rfl rfl Try.func97 (by kernel_rfl) rfl #[.slice A0 l0.length c0,.func (.func 70) #[.agg #[.int .i8 a1_0,.int .i8 a1_1,.int .i8 a1_2,.int .i8 a1_3]] #[]] rfl (by (try simp only [List.map_toArray,List.map_cons,List.map_nil]);first|done|rfl|(simp only [List.length_drop,List.length_take];rfl)) ?_;(with_reducible refine (slices_IndexFunc_impl_Slab_at_impl_Slab_meets.calls k _ _ l0 a1_0 a1_1 a1_2 a1_3 t332 _ ?side1 ?side2 A3.out).mono ?_);(case side1=>repeat (first|exact HR0.out|(with_reducible refine Kd.C_alloc ?_ _)|(with_reducible refine Kd.C_drewN ?_ _)|(with_reducible refine Kd.C_drew ?_)));(case side2=>exact HC0.out);rintro e w4 ⟨rfl,hb⟩;refine ⟨_,rfl,?_⟩;have n0_:=am_ (bT_ HB.out hb);clear HB;have HB:=n0_;clear n0_;(try clear hb);(try clear hb2);(try clear hk);(try clear hi)))
 go_ret
 exact ⟨by first|rfl|(simp [errW_none,errW_some] <;> rfl)|(simp [*,errW_none,errW_some] <;> rfl),by repeat (first|(with_reducible first|exact HB.out|apply bA_|apply bN_|apply bD_)|exact HB.out)⟩
end Go.Proofs.Ytjadgmafgkoanaa.Q
