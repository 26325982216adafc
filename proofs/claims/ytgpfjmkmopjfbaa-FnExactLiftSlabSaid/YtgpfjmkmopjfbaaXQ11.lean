-- Trimmed by a program.
import Derived.Test.YtgpfjmkmopjfbaaXQ0
namespace Go.Proofs.Ytgpfjmkmopjfbaa.Q
open RowKit YtgpfjmkmopjfbaaW.PrintWords YtgpfjmkmopjfbaaW.PrintLast YtgpfjmkmopjfbaaW.PrintMore
attribute [local go_sem] max2_int min2_int max_two min_two max_three min_three max_four min_four
set_option linter.unusedVariables false
set_option linter.unusedSimpArgs false
def impl_Slab_meets.f (a0_0 : Int) (a0_1 : Int) (a0_2 : Int) (a0_3 : Int) (a1_0 : Int) (a1_1 : Int) (a1_2 : Int) (a1_3 : Int) : Option (Bool) := if (wrap64 (a0_0)) < (wrap64 ((wrap64 (a1_0)) + (wrap64 (a1_2)))) then (if (wrap64 (a1_0)) < (wrap64 ((wrap64 (a0_0)) + (wrap64 (a0_2)))) then (if (wrap64 (a0_1)) < (wrap64 ((wrap64 (a1_1)) + (wrap64 (a1_3)))) then (some (decide ((wrap64 (a1_1)) < (wrap64 ((wrap64 (a0_1)) + (wrap64 (a0_3))))))) else (some false)) else (some false)) else (some false)
set_option maxHeartbeats 8000000 in
set_option maxRecDepth 100000 in
theorem impl_Slab_meets.calls (a0_0 : Int) (a0_1 : Int) (a0_2 : Int) (a0_3 : Int) (a1_0 : Int) (a1_1 : Int) (a1_2 : Int) (a1_3 : Int) (r : Bool) (w : World) (h : impl_Slab_meets.f a0_0 a0_1 a0_2 a0_3 a1_0 a1_1 a1_2 a1_3 = some r) :
  Calls Try.prog 55 #[.agg #[.int .i8 a0_0,.int .i8 a0_1,.int .i8 a0_2,.int .i8 a0_3],.agg #[.int .i8 a1_0,.int .i8 a1_1,.int .i8 a1_2,.int .i8 a1_3]] w fun e w'=>e = .returned (.bool r) ∧ Below w.heap.size w w':=by
 have hu31:=Try.underlying31;have HB:=am_ (Below.refl w.heap.size w);have H : (if (wrap64 (a0_0)) < (wrap64 ((wrap64 (a1_0)) + (wrap64 (a1_2)))) then (if (wrap64 (a1_0)) < (wrap64 ((wrap64 (a0_0)) + (wrap64 (a0_2)))) then (if (wrap64 (a0_1)) < (wrap64 ((wrap64 (a1_1)) + (wrap64 (a1_3)))) then (some (decide ((wrap64 (a1_1)) < (wrap64 ((wrap64 (a0_1)) + (wrap64 (a0_3))))))) else (some false)) else (some false)) else (some false)) = some r:=h;clear h
 by_cases c3 : (wrap64 (a0_0)) < (wrap64 ((wrap64 (a1_0)) + (wrap64 (a1_2))))
 ·
  rw [if_pos c3] at H;have c3b0 : decide ((wrap64 (a0_0)) < (wrap64 ((wrap64 (a1_0)) + (wrap64 (a1_2))))) = true:=decide_eq_true c3;clear c3
  by_cases c4 : (wrap64 (a1_0)) < (wrap64 ((wrap64 (a0_0)) + (wrap64 (a0_2))))
  ·
   rw [if_pos c4] at H;have c4b0 : decide ((wrap64 (a1_0)) < (wrap64 ((wrap64 (a0_0)) + (wrap64 (a0_2))))) = true:=decide_eq_true c4;clear c4
   by_cases c5 : (wrap64 (a0_1)) < (wrap64 ((wrap64 (a1_1)) + (wrap64 (a1_3))))
   ·
    rw [if_pos c5] at H;have c5b0 : decide ((wrap64 (a0_1)) < (wrap64 ((wrap64 (a1_1)) + (wrap64 (a1_3))))) = true:=decide_eq_true c5;clear c5;obtain rfl:=Option.some.inj H
    go_enter Try.func55,Try.ntmps55
    go_wp2_with (first|((with_reducible refine gate_dst (N:=2) rfl ?_);refine box_event ?hg (N:=2) ?hd (cs:=#[.int .i8 a0_0,.int .i8 a0_1,.int .i8 a0_2,.int .i8 a0_3]) (t:=31) ?hr ?_;(case hd=>rfl);(case hg=>rfl);(case hr=>first|(go_simp;done)|(go_simp;rfl));intro gb206 hg w6 hbox hb;have n0_:=am_ (bT_ HB.out hb);have n1_:=am_ (hbox);have n2_:=am_ ((by rw [hg];exact (bZ_ HB.out) : w.heap.size≤gb206));have n3_:=n2_;clear HB;have HB:=n0_;have BK206:=n1_;have GW206:=n2_;have GE206:=n3_;clear n0_ n1_ n2_ n3_;clear hb hbox hg)|((with_reducible refine gate_dst (N:=3) rfl ?_);refine box_event ?hg (N:=3) ?hd (cs:=#[.int .i8 a1_0,.int .i8 a1_1,.int .i8 a1_2,.int .i8 a1_3]) (t:=31) ?hr ?_;(case hd=>rfl);(case hg=>rfl);(case hr=>first|(go_simp;done)|(go_simp;rfl));intro gb207 hg w7 hbox hb;have n0_:=am_ (kB_ BK206.out hb);have n1_:=am_ (bT_ HB.out hb);have n2_:=am_ (hbox);have n3_:=am_ ((by rw [hg];exact (bZ_ HB.out) : w.heap.size≤gb207));have n4_:=n3_;have n5_:=am_ ((by rw [hg];exact nL_ (kL_ BK206.out) : gb206 ≠ gb207));have n6_:=am_ ((by rw [hg];exact nG_ (kL_ BK206.out) : gb207 ≠ gb206));clear BK206;clear HB;have BK206:=n0_;have HB:=n1_;have BK207:=n2_;have GW207:=n3_;have GE207:=n4_;have NB206_207:=n5_;have NB207_206:=n6_;clear n0_ n1_ n2_ n3_ n4_ n5_ n6_;clear hb hbox hg;have hnb8:=NB206_207.out;have hnc8:=NB207_206.out;have hcz9_0 : w7.cell? ⟨gb206,0,none⟩ = some (.int .i8 a0_0):=(kC_ BK206.out 0).trans rfl;have hcz9_1 : w7.cell? ⟨gb206,1,none⟩ = some (.int .i8 a0_1):=(kC_ BK206.out 1).trans rfl;have hcz9_2 : w7.cell? ⟨gb206,2,none⟩ = some (.int .i8 a0_2):=(kC_ BK206.out 2).trans rfl;have hcz9_3 : w7.cell? ⟨gb206,3,none⟩ = some (.int .i8 a0_3):=(kC_ BK206.out 3).trans rfl;have hfz9_0:=kF_ BK206.out 0;have hfz9_1:=kF_ BK206.out 1;have hfz9_2:=kF_ BK206.out 2;have hfz9_3:=kF_ BK206.out 3;have hcz10_0 : w7.cell? ⟨gb207,0,none⟩ = some (.int .i8 a1_0):=(kC_ BK207.out 0).trans rfl;have hcz10_1 : w7.cell? ⟨gb207,1,none⟩ = some (.int .i8 a1_1):=(kC_ BK207.out 1).trans rfl;have hcz10_2 : w7.cell? ⟨gb207,2,none⟩ = some (.int .i8 a1_2):=(kC_ BK207.out 2).trans rfl;have hcz10_3 : w7.cell? ⟨gb207,3,none⟩ = some (.int .i8 a1_3):=(kC_ BK207.out 3).trans rfl;have hfz10_0:=kF_ BK207.out 0;have hfz10_1:=kF_ BK207.out 1;have hfz10_2:=kF_ BK207.out 2;have hfz10_3:=kF_ BK207.out 3))
    go_ret
    exact ⟨by first|rfl|(simp [errW_none,errW_some] <;> rfl)|(simp [*,errW_none,errW_some] <;> rfl),by repeat (first|(with_reducible first|exact HB.out|apply bA_|apply bN_|apply bD_|refine bS_ ?_ GE206.out|refine bS_ ?_ GE207.out)|exact HB.out)⟩
   ·
    rw [if_neg c5] at H;have c5b0 : decide ((wrap64 (a0_1)) < (wrap64 ((wrap64 (a1_1)) + (wrap64 (a1_3))))) = false:=decide_eq_false c5;clear c5;obtain rfl:=Option.some.inj H
    go_enter Try.func55,Try.ntmps55
    go_wp2_with (first|((with_reducible refine gate_dst (N:=2) rfl ?_);refine box_event ?hg (N:=2) ?hd (cs:=#[.int .i8 a0_0,.int .i8 a0_1,.int .i8 a0_2,.int .i8 a0_3]) (t:=31) ?hr ?_;(case hd=>rfl);(case hg=>rfl);(case hr=>first|(go_simp;done)|(go_simp;rfl));intro gb206 hg w11 hbox hb;have n0_:=am_ (bT_ HB.out hb);have n1_:=am_ (hbox);have n2_:=am_ ((by rw [hg];exact (bZ_ HB.out) : w.heap.size≤gb206));have n3_:=n2_;clear HB;have HB:=n0_;have BK206:=n1_;have GW206:=n2_;have GE206:=n3_;clear n0_ n1_ n2_ n3_;clear hb hbox hg)|((with_reducible refine gate_dst (N:=3) rfl ?_);refine box_event ?hg (N:=3) ?hd (cs:=#[.int .i8 a1_0,.int .i8 a1_1,.int .i8 a1_2,.int .i8 a1_3]) (t:=31) ?hr ?_;(case hd=>rfl);(case hg=>rfl);(case hr=>first|(go_simp;done)|(go_simp;rfl));intro gb207 hg w12 hbox hb;have n0_:=am_ (kB_ BK206.out hb);have n1_:=am_ (bT_ HB.out hb);have n2_:=am_ (hbox);have n3_:=am_ ((by rw [hg];exact (bZ_ HB.out) : w.heap.size≤gb207));have n4_:=n3_;have n5_:=am_ ((by rw [hg];exact nL_ (kL_ BK206.out) : gb206 ≠ gb207));have n6_:=am_ ((by rw [hg];exact nG_ (kL_ BK206.out) : gb207 ≠ gb206));clear BK206;clear HB;have BK206:=n0_;have HB:=n1_;have BK207:=n2_;have GW207:=n3_;have GE207:=n4_;have NB206_207:=n5_;have NB207_206:=n6_;clear n0_ n1_ n2_ n3_ n4_ n5_ n6_;clear hb hbox hg;have hnb13:=NB206_207.out;have hnc13:=NB207_206.out;have hcz14_0 : w12.cell? ⟨gb206,0,none⟩ = some (.int .i8 a0_0):=(kC_ BK206.out 0).trans rfl;have hcz14_1 : w12.cell? ⟨gb206,1,none⟩ = some (.int .i8 a0_1):=(kC_ BK206.out 1).trans rfl;have hcz14_2 : w12.cell? ⟨gb206,2,none⟩ = some (.int .i8 a0_2):=(kC_ BK206.out 2).trans rfl;have hcz14_3 : w12.cell? ⟨gb206,3,none⟩ = some (.int .i8 a0_3):=(kC_ BK206.out 3).trans rfl;have hfz14_0:=kF_ BK206.out 0;have hfz14_1:=kF_ BK206.out 1;have hfz14_2:=kF_ BK206.out 2;have hfz14_3:=kF_ BK206.out 3;have hcz15_0 : w12.cell? ⟨gb207,0,none⟩ = some (.int .i8 a1_0):=(kC_ BK207.out 0).trans rfl;have hcz15_1 : w12.cell? ⟨gb207,1,none⟩ = some (.int .i8 a1_1):=(kC_ BK207.out 1).trans rfl;have hcz15_2 : w12.cell? ⟨gb207,2,none⟩ = some (.int .i8 a1_2):=(kC_ BK207.out 2).trans rfl;have hcz15_3 : w12.cell? ⟨gb207,3,none⟩ = some (.int .i8 a1_3):=(kC_ BK207.out 3).trans rfl;have hfz15_0:=kF_ BK207.out 0;have hfz15_1:=kF_ BK207.out 1;have hfz15_2:=kF_ BK207.out 2;have hfz15_3:=kF_ BK207.out 3))
    go_ret
    exact ⟨by first|rfl|(simp [errW_none,errW_some] <;> rfl)|(simp [*,errW_none,errW_some] <;> rfl),by repeat (first|(with_reducible first|exact HB.out|apply bA_|apply bN_|apply bD_|refine bS_ ?_ GE206.out|refine bS_ ?_ GE207.out)|exact HB.out)⟩
  ·
   rw [if_neg c4] at H;have c4b0 : decide ((wrap64 (a1_0)) < (wrap64 ((wrap64 (a0_0)) + (wrap64 (a0_2))))) = false:=decide_eq_false c4;clear c4;obtain rfl:=Option.some.inj H
   go_enter Try.func55,Try.ntmps55
   go_wp2_with (first|((with_reducible refine gate_dst (N:=2) rfl ?_);refine box_event ?hg (N:=2) ?hd (cs:=#[.int .i8 a0_0,.int .i8 a0_1,.int .i8 a0_2,.int .i8 a0_3]) (t:=31) ?hr ?_;(case hd=>rfl);(case hg=>rfl);(case hr=>first|(go_simp;done)|(go_simp;rfl));intro gb206 hg w16 hbox hb;have n0_:=am_ (bT_ HB.out hb);have n1_:=am_ (hbox);have n2_:=am_ ((by rw [hg];exact (bZ_ HB.out) : w.heap.size≤gb206));have n3_:=n2_;clear HB;have HB:=n0_;have BK206:=n1_;have GW206:=n2_;have GE206:=n3_;clear n0_ n1_ n2_ n3_;clear hb hbox hg)|((with_reducible refine gate_dst (N:=3) rfl ?_);refine box_event ?hg (N:=3) ?hd (cs:=#[.int .i8 a1_0,.int .i8 a1_1,.int .i8 a1_2,.int .i8 a1_3]) (t:=31) ?hr ?_;(case hd=>rfl);(case hg=>rfl);(case hr=>first|(go_simp;done)|(go_simp;rfl));intro gb207 hg w17 hbox hb;have n0_:=am_ (kB_ BK206.out hb);have n1_:=am_ (bT_ HB.out hb);have n2_:=am_ (hbox);have n3_:=am_ ((by rw [hg];exact (bZ_ HB.out) : w.heap.size≤gb207));have n4_:=n3_;have n5_:=am_ ((by rw [hg];exact nL_ (kL_ BK206.out) : gb206 ≠ gb207));have n6_:=am_ ((by rw [hg];exact nG_ (kL_ BK206.out) : gb207 ≠ gb206));clear BK206;clear HB;have BK206:=n0_;have HB:=n1_;have BK207:=n2_;have GW207:=n3_;have GE207:=n4_;have NB206_207:=n5_;have NB207_206:=n6_;clear n0_ n1_ n2_ n3_ n4_ n5_ n6_;clear hb hbox hg;have hnb18:=NB206_207.out;have hnc18:=NB207_206.out;have hcz19_0 : w17.cell? ⟨gb206,0,none⟩ = some (.int .i8 a0_0):=(kC_ BK206.out 0).trans rfl;have hcz19_1 : w17.cell? ⟨gb206,1,none⟩ = some (.int .i8 a0_1):=(kC_ BK206.out 1).trans rfl;have hcz19_2 : w17.cell? ⟨gb206,2,none⟩ = some (.int .i8 a0_2):=(kC_ BK206.out 2).trans rfl;have hcz19_3 : w17.cell? ⟨gb206,3,none⟩ = some (.int .i8 a0_3):=(kC_ BK206.out 3).trans rfl;have hfz19_0:=kF_ BK206.out 0;have hfz19_1:=kF_ BK206.out 1;have hfz19_2:=kF_ BK206.out 2;have hfz19_3:=kF_ BK206.out 3;have hcz20_0 : w17.cell? ⟨gb207,0,none⟩ = some (.int .i8 a1_0):=(kC_ BK207.out 0).trans rfl;have hcz20_1 : w17.cell? ⟨gb207,1,none⟩ = some (.int .i8 a1_1):=(kC_ BK207.out 1).trans rfl;have hcz20_2 : w17.cell? ⟨gb207,2,none⟩ = some (.int .i8 a1_2):=(kC_ BK207.out 2).trans rfl;have hcz20_3 : w17.cell? ⟨gb207,3,none⟩ = some (.int .i8 a1_3):=(kC_ BK207.out 3).trans rfl;have hfz20_0:=kF_ BK207.out 0;have hfz20_1:=kF_ BK207.out 1;have hfz20_2:=kF_ BK207.out 2;have hfz20_3:=kF_ BK207.out 3))
   go_ret
   exact ⟨by first|rfl|(simp [errW_none,errW_some] <;> rfl)|(simp [*,errW_none,errW_some] <;> rfl),by repeat (first|(with_reducible first|exact HB.out|apply bA_|apply bN_|apply bD_|refine bS_ ?_ GE206.out|refine bS_ ?_ GE207.out)|exact HB.out)⟩
 ·
  rw [if_neg c3] at H;have c3b0 : decide ((wrap64 (a0_0)) < (wrap64 ((wrap64 (a1_0)) + (wrap64 (a1_2))))) = false:=decide_eq_false c3;clear c3;obtain rfl:=Option.some.inj H
  go_enter Try.func55,Try.ntmps55
  go_wp2_with (first|((with_reducible refine gate_dst (N:=2) rfl ?_);refine box_event ?hg (N:=2) ?hd (cs:=#[.int .i8 a0_0,.int .i8 a0_1,.int .i8 a0_2,.int .i8 a0_3]) (t:=31) ?hr ?_;(case hd=>rfl);(case hg=>rfl);(case hr=>first|(go_simp;done)|(go_simp;rfl));intro gb206 hg w21 hbox hb;have n0_:=am_ (bT_ HB.out hb);have n1_:=am_ (hbox);have n2_:=am_ ((by rw [hg];exact (bZ_ HB.out) : w.heap.size≤gb206));have n3_:=n2_;clear HB;have HB:=n0_;have BK206:=n1_;have GW206:=n2_;have GE206:=n3_;clear n0_ n1_ n2_ n3_;clear hb hbox hg)|((with_reducible refine gate_dst (N:=3) rfl ?_);refine box_event ?hg (N:=3) ?hd (cs:=#[.int .i8 a1_0,.int .i8 a1_1,.int .i8 a1_2,.int .i8 a1_3]) (t:=31) ?hr ?_;(case hd=>rfl);(case hg=>rfl);(case hr=>first|(go_simp;done)|(go_simp;rfl));intro gb207 hg w22 hbox hb;have n0_:=am_ (kB_ BK206.out hb);have n1_:=am_ (bT_ HB.out hb);have n2_:=am_ (hbox);have n3_:=am_ ((by rw [hg];exact (bZ_ HB.out) : w.heap.size≤gb207));have n4_:=n3_;have n5_:=am_ ((by rw [hg];exact nL_ (kL_ BK206.out) : gb206 ≠ gb207));have n6_:=am_ ((by rw [hg];exact nG_ (kL_ BK206.out) : gb207 ≠ gb206));clear BK206;clear HB;have BK206:=n0_;have HB:=n1_;have BK207:=n2_;have GW207:=n3_;have GE207:=n4_;have NB206_207:=n5_;have NB207_206:=n6_;clear n0_ n1_ n2_ n3_ n4_ n5_ n6_;clear hb hbox hg;have hnb23:=NB206_207.out;have hnc23:=NB207_206.out;have hcz24_0 : w22.cell? ⟨gb206,0,none⟩ = some (.int .i8 a0_0):=(kC_ BK206.out 0).trans rfl;have hcz24_1 : w22.cell? ⟨gb206,1,none⟩ = some (.int .i8 a0_1):=(kC_ BK206.out 1).trans rfl;have hcz24_2 : w22.cell? ⟨gb206,2,none⟩ = some (.int .i8 a0_2):=(kC_ BK206.out 2).trans rfl;have hcz24_3 : w22.cell? ⟨gb206,3,none⟩ = some (.int .i8 a0_3):=(kC_ BK206.out 3).trans rfl;have hfz24_0:=kF_ BK206.out 0;have hfz24_1:=kF_ BK206.out 1;have hfz24_2:=kF_ BK206.out 2;have hfz24_3:=kF_ BK206.out 3;have hcz25_0 : w22.cell? ⟨gb207,0,none⟩ = some (.int .i8 a1_0):=(kC_ BK207.out 0).trans rfl;have hcz25_1 : w22.cell? ⟨gb207,1,none⟩ = some (.int .i8 a1_1):=(kC_ BK207.out 1).trans rfl;have hcz25_2 : w22.cell? ⟨gb207,2,none⟩ = some (.int .i8 a1_2):=(kC_ BK207.out 2).trans rfl;have hcz25_3 : w22.cell? ⟨gb207,3,none⟩ = some (.int .i8 a1_3):=(kC_ BK207.out 3).trans rfl;have hfz25_0:=kF_ BK207.out 0;have hfz25_1:=kF_ BK207.out 1;have hfz25_2:=kF_ BK207.out 2;have hfz25_3:=kF_ BK207.out 3))
  go_ret
  exact ⟨by first|rfl|(simp [errW_none,errW_some] <;> rfl)|(simp [*,errW_none,errW_some] <;> rfl),by repeat (first|(with_reducible first|exact HB.out|apply bA_|apply bN_|apply bD_|refine bS_ ?_ GE206.out|refine bS_ ?_ GE207.out)|exact HB.out)⟩
def slices_IndexFunc_impl_Slab_at_impl_Slab_meets.l0 : Nat → List (S31) → Int → Int → Int → Int → Int → Int → Option (Int)
 | 0,_,_,_,_,_,_,_=>none
 | k + 1,x0,x7,x8,x2000,x2001,x2002,x2003=>if x8 < x7 then (if 0≤x8 then (if x8 < (x0.length : Int) then ((impl_Slab_meets.f x2000 x2001 x2002 x2003 ((rd_T31 x0 x8).f0) ((rd_T31 x0 x8).f1) ((rd_T31 x0 x8).f2) ((rd_T31 x0 x8).f3)).bind fun t219=>(if t219 = true then (some x8) else (slices_IndexFunc_impl_Slab_at_impl_Slab_meets.l0 k x0 x7 (wrap64 (x8 + 1)) x2000 x2001 x2002 x2003))) else (none)) else (none)) else (some (-1))
def slices_IndexFunc_impl_Slab_at_impl_Slab_meets.f (k : Nat) (l0 : List (S31)) (a1_0 : Int) (a1_1 : Int) (a1_2 : Int) (a1_3 : Int) : Option (Int) := slices_IndexFunc_impl_Slab_at_impl_Slab_meets.l0 k l0 (l0.length : Int) 0 a1_0 a1_1 a1_2 a1_3
theorem slices_IndexFunc_impl_Slab_at_impl_Slab_meets.mono_l : ∀ k, (∀ y0 y1 y2 y3 y4 y5 y6, LeO (slices_IndexFunc_impl_Slab_at_impl_Slab_meets.l0 k y0 y1 y2 y3 y4 y5 y6) (slices_IndexFunc_impl_Slab_at_impl_Slab_meets.l0 (k + 1) y0 y1 y2 y3 y4 y5 y6))
 | 0=>fun _ _ _ _ _ _ _ r h=>by simp [slices_IndexFunc_impl_Slab_at_impl_Slab_meets.l0] at h
 | k + 1=>by
  have ih0:=slices_IndexFunc_impl_Slab_at_impl_Slab_meets.mono_l k
  ·
   intro y0 y1 y2 y3 y4 y5 y6
   unfold slices_IndexFunc_impl_Slab_at_impl_Slab_meets.l0
   repeat' first
   | (with_reducible exact ih0 _ _ _ _ _ _ _)
   | (with_reducible exact LeO.refl _)
   | (with_reducible exact LeO.none _)
   | (with_reducible refine LeO.ite ?_ ?_)
   | (with_reducible refine LeO.bind ?_ (fun _=>?_))
   | exact ih0 _ _ _ _ _ _ _
   | exact LeO.none _
   | refine LeO.ite ?_ ?_
   | refine LeO.bind ?_ (fun _=>?_)
theorem slices_IndexFunc_impl_Slab_at_impl_Slab_meets.mono : ∀ a0 a1 a2 a3 a4 k, LeO (slices_IndexFunc_impl_Slab_at_impl_Slab_meets.f k a0 a1 a2 a3 a4) (slices_IndexFunc_impl_Slab_at_impl_Slab_meets.f (k + 1) a0 a1 a2 a3 a4) := by
 intro a0 a1 a2 a3 a4 k;have ih0:=slices_IndexFunc_impl_Slab_at_impl_Slab_meets.mono_l k
 unfold slices_IndexFunc_impl_Slab_at_impl_Slab_meets.f
 repeat' first
   | (with_reducible exact ih0 _ _ _ _ _ _ _)
   | (with_reducible exact LeO.refl _)
   | (with_reducible exact LeO.none _)
   | (with_reducible refine LeO.ite ?_ ?_)
   | (with_reducible refine LeO.bind ?_ (fun _=>?_))
   | exact ih0 _ _ _ _ _ _ _
   | exact LeO.none _
   | refine LeO.ite ?_ ?_
   | refine LeO.bind ?_ (fun _=>?_)
set_option maxHeartbeats 8000000 in
set_option maxRecDepth 100000 in
theorem slices_IndexFunc_impl_Slab_at_impl_Slab_meets.calls (k : Nat) (A0 : Option Addr) (c0 : Nat) (l0 : List (S31)) (a1_0 : Int) (a1_1 : Int) (a1_2 : Int) (a1_3 : Int) (r : Int) (w : World) (hr0 : Kd.C k31 w A0 l0.length l0) (hc0 : l0.length ≤ c0) (h : slices_IndexFunc_impl_Slab_at_impl_Slab_meets.f k l0 a1_0 a1_1 a1_2 a1_3 = some r) :
  Calls Try.prog 56 #[.slice A0 l0.length c0,.func (.func 55) #[.agg #[.int .i8 a1_0,.int .i8 a1_1,.int .i8 a1_2,.int .i8 a1_3]] #[]] w fun e w'=>e = .returned (.int .i64 r) ∧ Below w.heap.size w w':=by
 have hu31:=Try.underlying31;have HR0:=am_ hr0;have HC0:=am_ hc0;clear hr0 hc0;have HB:=am_ (Below.refl w.heap.size w);have H : (slices_IndexFunc_impl_Slab_at_impl_Slab_meets.l0 k l0 (l0.length : Int) 0 a1_0 a1_1 a1_2 a1_3) = some r:=h;clear h;have H':=am_ H;clear H
 go_enter Try.func56,Try.ntmps56
 go_wp2
 go_loopg [8] k (fun kq v8 w'=>∃ (x8_1 : Int),v8 = .int .i64 x8_1 ∧ Aside0 (slices_IndexFunc_impl_Slab_at_impl_Slab_meets.l0 kq l0 (l0.length : Int) x8_1 a1_0 a1_1 a1_2 a1_3 = some r) ∧ Aside0 (kq≤k) ∧ Aside0 (Below w.heap.size w w'))
 case atStart=>exact ⟨(0),(by first|rfl|(simp;done)|(simp [*];done)),H',⟨Nat.le_refl _⟩,⟨by repeat (first|(with_reducible first|exact HB.out|apply bA_|apply bN_|apply bD_)|exact HB.out)⟩⟩
 case round =>
  clear H';(try clear c1);(try clear p2);obtain ⟨x8_1,rfl,HA,HK1,HB⟩:=hrel
  cases gk with
  | zero=>exact absurd HA.out (by simp [slices_IndexFunc_impl_Slab_at_impl_Slab_meets.l0])
  | succ k1 =>
   have H:=HA.out;clear HA;simp only [slices_IndexFunc_impl_Slab_at_impl_Slab_meets.l0] at H
   by_cases c3 : x8_1 < (l0.length : Int)
   ·
    rw [if_pos c3] at H;have c3b0 : decide (x8_1 < (l0.length : Int)) = true:=decide_eq_true c3;clear c3
    by_cases c4 : 0≤x8_1
    ·
     rw [if_pos c4] at H;have c4b0 : decide (0≤x8_1) = true:=decide_eq_true c4;clear c4
     by_cases c5 : x8_1 < (l0.length : Int)
     ·
      rw [if_pos c5] at H;have c5b0 : decide (x8_1 < (l0.length : Int)) = true:=decide_eq_true c5;clear c5;replace H:=Option.bind_eq_some_iff.mp H;obtain ⟨t219,A60,H⟩:=H;replace H : (if t219 = true then (some x8_1) else (slices_IndexFunc_impl_Slab_at_impl_Slab_meets.l0 k1 l0 (l0.length : Int) (wrap64 (x8_1 + 1)) a1_0 a1_1 a1_2 a1_3)) = some r:=H;have A6:=am_ A60;clear A60
      by_cases c7 : t219 = true
      ·
       subst c7;have H1 : (some x8_1) = some r:=by rw [if_pos rfl] at H;exact H
       clear H;have H:=H1;clear H1;obtain rfl:=Option.some.inj H;have p218 : 0≤(x8_1 : Int):=od_ (by first|(with_reducible assumption)|assumption);have q218 : x8_1 < (l0.length : Int):=od_ (by first|(with_reducible assumption)|assumption);obtain ⟨ad218,e218,hx218_0,hx218_1,hx218_2,hx218_3⟩:=at_T31 HR0.out x8_1 p218 q218
       cases e218
       replace hx218_0:=(HB.out.cell (bl_ w _ hx218_0)).trans hx218_0;replace hx218_1:=(HB.out.cell (bl_ w _ hx218_1)).trans hx218_1;replace hx218_2:=(HB.out.cell (bl_ w _ hx218_2)).trans hx218_2;replace hx218_3:=(HB.out.cell (bl_ w _ hx218_3)).trans hx218_3;replace p218:=eq_true p218;replace q218:=eq_true q218
       go_wp2_with (first|(go_at_call 55;(with_reducible refine (impl_Slab_meets.calls a1_0 a1_1 a1_2 a1_3 ((rd_T31 l0 x8_1).f0) ((rd_T31 l0 x8_1).f1) ((rd_T31 l0 x8_1).f2) ((rd_T31 l0 x8_1).f3) true _ A6.out).mono ?_);rintro e w8 ⟨rfl,hb⟩;replace HB:=am_ (bT_ HB.out hb);(try clear hb hb2 hk hi)))
       go_ret
       exact ⟨by first|rfl|(simp [errW_none,errW_some] <;> rfl)|(simp [*,errW_none,errW_some] <;> rfl),by repeat (first|(with_reducible first|exact HB.out|apply bA_|apply bN_|apply bD_)|exact HB.out)⟩
      ·
       replace c7:=Bool.eq_false_iff.mpr c7;subst c7;have H1 : (slices_IndexFunc_impl_Slab_at_impl_Slab_meets.l0 k1 l0 (l0.length : Int) (wrap64 (x8_1 + 1)) a1_0 a1_1 a1_2 a1_3) = some r:=by rw [if_neg (show ¬ (false = true) by decide)] at H;exact H
       clear H;have H:=H1;clear H1;have H':=am_ H;clear H;have p218 : 0≤(x8_1 : Int):=od_ (by first|(with_reducible assumption)|assumption);have q218 : x8_1 < (l0.length : Int):=od_ (by first|(with_reducible assumption)|assumption);obtain ⟨ad218,e218,hx218_0,hx218_1,hx218_2,hx218_3⟩:=at_T31 HR0.out x8_1 p218 q218
       cases e218
       replace hx218_0:=(HB.out.cell (bl_ w _ hx218_0)).trans hx218_0;replace hx218_1:=(HB.out.cell (bl_ w _ hx218_1)).trans hx218_1;replace hx218_2:=(HB.out.cell (bl_ w _ hx218_2)).trans hx218_2;replace hx218_3:=(HB.out.cell (bl_ w _ hx218_3)).trans hx218_3;replace p218:=eq_true p218;replace q218:=eq_true q218
       go_wp2_with (first|(go_at_call 55;(with_reducible refine (impl_Slab_meets.calls a1_0 a1_1 a1_2 a1_3 ((rd_T31 l0 x8_1).f0) ((rd_T31 l0 x8_1).f1) ((rd_T31 l0 x8_1).f2) ((rd_T31 l0 x8_1).f3) false _ A6.out).mono ?_);rintro e w9 ⟨rfl,hb⟩;replace HB:=am_ (bT_ HB.out hb);(try clear hb hb2 hk hi)))
       go_roundg k1
       case measure=>have:=HK1.out;omega
       case rel=>exact ⟨(wrap64 (x8_1 + 1)),(by first|rfl|(simp;done)|(simp [*];done)),H',⟨by have:=HK1.out;omega⟩,⟨by repeat (first|(with_reducible first|exact HB.out|apply bA_|apply bN_|apply bD_)|exact HB.out)⟩⟩
     · rw [if_neg c5] at H;exact absurd H (by simp)
    · rw [if_neg c4] at H;exact absurd H (by simp)
   ·
    rw [if_neg c3] at H;have c3b0 : decide (x8_1 < (l0.length : Int)) = false:=decide_eq_false c3;clear c3;obtain rfl:=Option.some.inj H
    go_wp2
    go_ret
    exact ⟨by first|rfl|(simp [errW_none,errW_some] <;> rfl)|(simp [*,errW_none,errW_some] <;> rfl),by repeat (first|(with_reducible first|exact HB.out|apply bA_|apply bN_|apply bD_)|exact HB.out)⟩
def slices_ContainsFunc_impl_Slab_at_impl_Slab_meets.f (k : Nat) (l0 : List (S31)) (a1_0 : Int) (a1_1 : Int) (a1_2 : Int) (a1_3 : Int) : Option (Bool) := (slices_IndexFunc_impl_Slab_at_impl_Slab_meets.f k l0 a1_0 a1_1 a1_2 a1_3).bind fun t220 => (some (decide (t220 ≥ 0)))
theorem slices_ContainsFunc_impl_Slab_at_impl_Slab_meets.mono : ∀ a0 a1 a2 a3 a4 k, LeO (slices_ContainsFunc_impl_Slab_at_impl_Slab_meets.f k a0 a1 a2 a3 a4) (slices_ContainsFunc_impl_Slab_at_impl_Slab_meets.f (k + 1) a0 a1 a2 a3 a4) := by
 intro a0 a1 a2 a3 a4 k
 unfold slices_ContainsFunc_impl_Slab_at_impl_Slab_meets.f
 repeat' first
   | (with_reducible exact slices_IndexFunc_impl_Slab_at_impl_Slab_meets.mono _ _ _ _ _ _)
   | (with_reducible exact LeO.refl _)
   | (with_reducible exact LeO.none _)
   | (with_reducible refine LeO.ite ?_ ?_)
   | (with_reducible refine LeO.bind ?_ (fun _=>?_))
   | exact slices_IndexFunc_impl_Slab_at_impl_Slab_meets.mono _ _ _ _ _ _
   | exact LeO.none _
   | refine LeO.ite ?_ ?_
   | refine LeO.bind ?_ (fun _=>?_)
set_option maxHeartbeats 8000000 in
set_option maxRecDepth 100000 in
theorem slices_ContainsFunc_impl_Slab_at_impl_Slab_meets.calls (k : Nat) (A0 : Option Addr) (c0 : Nat) (l0 : List (S31)) (a1_0 : Int) (a1_1 : Int) (a1_2 : Int) (a1_3 : Int) (r : Bool) (w : World) (hr0 : Kd.C k31 w A0 l0.length l0) (hc0 : l0.length ≤ c0) (h : slices_ContainsFunc_impl_Slab_at_impl_Slab_meets.f k l0 a1_0 a1_1 a1_2 a1_3 = some r) :
  Calls Try.prog 54 #[.slice A0 l0.length c0,.func (.func 55) #[.agg #[.int .i8 a1_0,.int .i8 a1_1,.int .i8 a1_2,.int .i8 a1_3]] #[]] w fun e w'=>e = .returned (.bool r) ∧ Below w.heap.size w w':=by
 have HR0:=am_ hr0;have HC0:=am_ hc0;clear hr0 hc0;have HB:=am_ (Below.refl w.heap.size w);have H : ((slices_IndexFunc_impl_Slab_at_impl_Slab_meets.f k l0 a1_0 a1_1 a1_2 a1_3).bind fun t220=>(some (decide (t220 ≥ 0)))) = some r:=h;clear h;replace H:=Option.bind_eq_some_iff.mp H;obtain ⟨t220,A30,H⟩:=H;replace H : (some (decide (t220 ≥ 0))) = some r:=H;have A3:=am_ A30;clear A30;obtain rfl:=Option.some.inj H
 go_enter Try.func54,Try.ntmps54
 go_wp2_with (first|((with_reducible refine gate_callee (f:=56) rfl ?_);refine goesL_ (some 7) rfl rfl Try.func56 (by kernel_rfl) rfl #[.slice A0 l0.length c0,.func (.func 55) #[.agg #[.int .i8 a1_0,.int .i8 a1_1,.int .i8 a1_2,.int .i8 a1_3]] #[]] rfl (by (try simp only [List.map_toArray,List.map_cons,List.map_nil]);first|done|rfl|(simp only [List.length_drop,List.length_take];rfl)) ?_;(with_reducible refine (slices_IndexFunc_impl_Slab_at_impl_Slab_meets.calls k _ _ l0 a1_0 a1_1 a1_2 a1_3 t220 _ ?side1 ?side2 A3.out).mono ?_);(case side1=>repeat (first|exact HR0.out|(with_reducible refine Kd.C_alloc ?_ _)|(with_reducible refine Kd.C_drewN ?_ _)|(with_reducible refine Kd.C_drew ?_)));(case side2=>exact HC0.out);rintro e w4 ⟨rfl,hb⟩;refine ⟨_,rfl,?_⟩;replace HB:=am_ (bT_ HB.out hb);(try clear hb hb2 hk hi)))
 go_ret
 exact ⟨by first|rfl|(simp [errW_none,errW_some] <;> rfl)|(simp [*,errW_none,errW_some] <;> rfl),by repeat (first|(with_reducible first|exact HB.out|apply bA_|apply bN_|apply bD_)|exact HB.out)⟩
end Go.Proofs.Ytgpfjmkmopjfbaa.Q
