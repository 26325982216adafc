-- By a program of this session's: of the print's words what this claim needs. Lean checks it.
import Derived.Test.YtjadgmafgkoanaaXQ0
import Derived.Test.YtjadgmafgkoanaaXQ5
import Derived.Test.YtjadgmafgkoanaaXQ6
namespace Go.Proofs.Ytjadgmafgkoanaa.Q
open Go.RowKit Go.Proofs.YtjadgmafgkoanaaW.PrintWords Go.Proofs.YtjadgmafgkoanaaW.PrintLast Go.Proofs.YtjadgmafgkoanaaW.PrintMore
attribute [local go_sem] max2_int min2_int max_two min_two max_three min_three max_four min_four
set_option linter.unusedVariables false
set_option linter.unusedSimpArgs false
def spec_l01Ok.f (k : Nat) (l0 : List (S29)) : Option (Bool) := (spec_l01Lay.f k l0).bind fun bt241 => (if bt241.1.length = 144 then (some bt241.2) else (none))
theorem spec_l01Ok.mono : ∀ a0 k, LeO (spec_l01Ok.f k a0) (spec_l01Ok.f (k + 1) a0) := by
 intro a0 k
 unfold spec_l01Ok.f
 repeat' first
   | (with_reducible exact spec_l01Lay.mono _ _)
   | (with_reducible exact LeO.refl _)
   | (with_reducible exact LeO.none _)
   | (with_reducible refine LeO.ite ?_ ?_)
   | (with_reducible refine LeO.bind ?_ (fun _=>?_))
   | exact spec_l01Lay.mono _ _
   | exact LeO.none _
   | refine LeO.ite ?_ ?_
   | refine LeO.bind ?_ (fun _=>?_)
set_option maxHeartbeats 8000000 in
set_option maxRecDepth 100000 in
theorem spec_l01Ok.calls (k : Nat) (A0 : Option Addr) (c0 : Nat) (l0 : List (S29)) (r : Bool) (w : World) (hr0 : Kd.C k29 w A0 l0.length l0) (hc0 : l0.length ≤ c0) (h : spec_l01Ok.f k l0 = some r) :
  Calls Try.prog 53 #[.pointer A0] w fun e w'=>e = .returned (.bool r) ∧ Below w.heap.size w w':=by
 have hu91:=Try.underlying91;have HR0:=am_ hr0;have HC0:=am_ hc0;clear hr0 hc0;have HB:=am_ (Below.refl w.heap.size w);have H : ((spec_l01Lay.f k l0).bind fun bt241=>(if bt241.1.length = 144 then (some bt241.2) else (none))) = some r:=h;clear h;replace H:=Option.bind_eq_some_iff.mp H;obtain ⟨⟨t241,t242⟩,A20,H⟩:=H;replace H : (if t241.length = 144 then (some t242) else (none)) = some r:=H;have A2:=am_ A20;clear A20
 by_cases c3 : t241.length = 144
 ·
  rw [if_pos c3] at H;have c3b0:=eq_true c3;have c3b1 : decide (t241.length = 144) = true:=decide_eq_true c3;clear c3;obtain rfl:=Option.some.inj H
  go_enter Try.func53,Try.ntmps53
  go_wp2_with (first|((with_reducible refine gate_callee (f:=72) rfl ?_);refine goesL_ (some 7) rfl rfl Try.func72 (by kernel_rfl) rfl #[.pointer A0] rfl (by (try simp only [List.map_toArray,List.map_cons,List.map_nil]);first|done|rfl|(simp only [List.length_drop,List.length_take];rfl)) ?_;(with_reducible refine (spec_l01Lay.calls k _ c0 l0 t241 t242 _ ?side1 ?side2 A2.out).mono ?_);(case side1=>repeat (first|exact HR0.out|(with_reducible refine Kd.C_alloc ?_ _)|(with_reducible refine Kd.C_drewN ?_ _)|(with_reducible refine Kd.C_drew ?_)));(case side2=>exact HC0.out);rintro e w4 ⟨rfl,hb⟩;refine ⟨_,rfl,?_⟩;have n0_:=am_ (bT_ HB.out hb);clear HB;have HB:=n0_;clear n0_;(try clear hb);(try clear hb2);(try clear hk);(try clear hi))|((with_reducible refine gate_dst (N:=3) rfl ?_);refine box_event ?hg (N:=3) ?hd (cs:=(arrC .i64 (arrZ 144))) (t:=91) ?hr ?_;(case hd=>rfl);(case hg=>rfl);(case hr=>exact arr_alloc rfl .i64 144 (by kernel_rfl));intro gb243 hg w5 hbox hb;have n0_:=am_ (bT_ HB.out hb);have n1_:=am_ (hbox);have n2_:=am_ ((by rw [hg];exact (bZ_ HB.out) : w.heap.size≤gb243));have n3_:=n2_;clear HB;have HB:=n0_;have BK243:=n1_;have GW243:=n2_;have GE243:=n3_;clear n0_ n1_ n2_ n3_;clear hb hbox hg)|((with_reducible refine gate_store (t:=91) (p:=3) rfl ?_);refine arr_store (p:=3) (v:=?vv_w6) (n:=144) (k:=.i64) (g:=gb243) (l:=(arrZ 144)) (l2:=t241) ?hg ?hn (t:=91) ?ho ?hp ?hv BK243.out (by kernel_rfl) (arrZ_length _) (od_ (by first|(with_reducible assumption)|assumption)) ?_;(case ho=>rfl);(case hg=>rfl);(case hn=>rfl);(case hp=>rfl);(case hv=>rfl);intro w6 hg hx;have n0_:=am_ (hx);have n1_:=am_ (Below.grown HB.out hg (bZ_ HB.out) (fun k_ e_=>by cases e_;exact GE243.out));clear BK243;clear HB;have BK243:=n0_;have HB:=n1_;clear n0_ n1_;clear hg hx))
  go_ret
  exact ⟨by first|rfl|(simp [errW_none,errW_some] <;> rfl)|(simp [*,errW_none,errW_some] <;> rfl),by repeat (first|(with_reducible first|exact HB.out|apply bA_|apply bN_|apply bD_|refine bS_ ?_ GE243.out)|exact HB.out)⟩
 ·
  rw [if_neg c3] at H;exact absurd H (by simp)
mutual
def spec_l01Can.l0 : Nat → Int → Int → Int → Int → Int → List Int → Option (Bool)
 | 0,_,_,_,_,_,_=>none
 | k + 1,x7,x245000,x245001,x245002,x245003,x249000=>if x7 < (IntKind.i8.wrap (x245001 + x245003)) then (spec_l01Can.l1 k x7 x245000 x245000 x245001 x245002 x245003 x249000) else (some true)
def spec_l01Can.l1 : Nat → Int → Int → Int → Int → Int → Int → List Int → Option (Bool)
 | 0,_,_,_,_,_,_,_=>none
 | k + 1,x7,x8,x245000,x245001,x245002,x245003,x249000=>if x8 < (IntKind.i8.wrap (x245000 + x245002)) then (if 0≤x7 then (if x7 < 12 then (if 0≤x8 then (if x8 < 12 then (if x7 * 12 + x8 < (x249000.length : Int) then (if (rd x249000 (x7 * 12 + x8)) = 0 then (spec_l01Can.l1 k x7 (IntKind.i8.wrap (x8 + 1)) x245000 x245001 x245002 x245003 x249000) else (some false)) else (none)) else (none)) else (none)) else (none)) else (none)) else (spec_l01Can.l0 k (IntKind.i8.wrap (x7 + 1)) x245000 x245001 x245002 x245003 x249000)
end
def spec_l01Can.f (k : Nat) (l0 : List (S29)) (a1_0 : Int) (a1_1 : Int) (a1_2 : Int) (a1_3 : Int) : Option (Bool) := (spec_l01Lies.f l0 a1_0 a1_1 a1_2 a1_3).bind fun t245 => (if t245 = true then ((spec_l01Lay.f k l0).bind fun bt246 => (if bt246.1.length = 144 then (spec_l01Can.l0 k a1_1 a1_0 a1_1 a1_2 a1_3 bt246.1) else (none))) else (some false))
theorem spec_l01Can.mono_l : ∀ k, (∀ y0 y1 y2 y3 y4 y5, LeO (spec_l01Can.l0 k y0 y1 y2 y3 y4 y5) (spec_l01Can.l0 (k + 1) y0 y1 y2 y3 y4 y5)) ∧ (∀ y0 y1 y2 y3 y4 y5 y6, LeO (spec_l01Can.l1 k y0 y1 y2 y3 y4 y5 y6) (spec_l01Can.l1 (k + 1) y0 y1 y2 y3 y4 y5 y6))
 | 0=>⟨fun _ _ _ _ _ _ r h=>by simp [spec_l01Can.l0] at h,fun _ _ _ _ _ _ _ r h=>by simp [spec_l01Can.l1] at h⟩
 | k + 1=>by
  obtain ⟨ih0,ih1⟩:=spec_l01Can.mono_l k;refine ⟨?_,?_⟩
  ·
   intro y0 y1 y2 y3 y4 y5
   unfold spec_l01Can.l0
   repeat' first
   | (with_reducible exact ih0 _ _ _ _ _ _)
   | (with_reducible exact ih1 _ _ _ _ _ _ _)
   | (with_reducible exact spec_l01Lay.mono _ _)
   | (with_reducible exact LeO.refl _)
   | (with_reducible exact LeO.none _)
   | (with_reducible refine LeO.ite ?_ ?_)
   | (with_reducible refine LeO.bind ?_ (fun _=>?_))
   | exact ih0 _ _ _ _ _ _
   | exact ih1 _ _ _ _ _ _ _
   | exact spec_l01Lay.mono _ _
   | exact LeO.none _
   | refine LeO.ite ?_ ?_
   | refine LeO.bind ?_ (fun _=>?_)
  ·
   intro y0 y1 y2 y3 y4 y5 y6
   unfold spec_l01Can.l1
   repeat' first
   | (with_reducible exact ih0 _ _ _ _ _ _)
   | (with_reducible exact ih1 _ _ _ _ _ _ _)
   | (with_reducible exact spec_l01Lay.mono _ _)
   | (with_reducible exact LeO.refl _)
   | (with_reducible exact LeO.none _)
   | (with_reducible refine LeO.ite ?_ ?_)
   | (with_reducible refine LeO.bind ?_ (fun _=>?_))
   | exact ih0 _ _ _ _ _ _
   | exact ih1 _ _ _ _ _ _ _
   | exact spec_l01Lay.mono _ _
   | exact LeO.none _
   | refine LeO.ite ?_ ?_
   | refine LeO.bind ?_ (fun _=>?_)
theorem spec_l01Can.mono : ∀ a0 a1 a2 a3 a4 k, LeO (spec_l01Can.f k a0 a1 a2 a3 a4) (spec_l01Can.f (k + 1) a0 a1 a2 a3 a4) := by
 intro a0 a1 a2 a3 a4 k;obtain ⟨ih0,ih1⟩:=spec_l01Can.mono_l k
 unfold spec_l01Can.f
 repeat' first
   | (with_reducible exact ih0 _ _ _ _ _ _)
   | (with_reducible exact ih1 _ _ _ _ _ _ _)
   | (with_reducible exact spec_l01Lay.mono _ _)
   | (with_reducible exact LeO.refl _)
   | (with_reducible exact LeO.none _)
   | (with_reducible refine LeO.ite ?_ ?_)
   | (with_reducible refine LeO.bind ?_ (fun _=>?_))
   | exact ih0 _ _ _ _ _ _
   | exact ih1 _ _ _ _ _ _ _
   | exact spec_l01Lay.mono _ _
   | exact LeO.none _
   | refine LeO.ite ?_ ?_
   | refine LeO.bind ?_ (fun _=>?_)
set_option maxHeartbeats 8000000 in
set_option maxRecDepth 100000 in
theorem spec_l01Can.calls (k : Nat) (A0 : Option Addr) (c0 : Nat) (l0 : List (S29)) (a1_0 : Int) (a1_1 : Int) (a1_2 : Int) (a1_3 : Int) (r : Bool) (w : World) (hr0 : Kd.C k29 w A0 l0.length l0) (hc0 : l0.length ≤ c0) (h : spec_l01Can.f k l0 a1_0 a1_1 a1_2 a1_3 = some r) :
  Calls Try.prog 60 #[.pointer A0,.agg #[.int .i8 a1_0,.int .i8 a1_1,.int .i8 a1_2,.int .i8 a1_3]] w fun e w'=>e = .returned (.bool r) ∧ Below w.heap.size w w':=by
 have hu49:=Try.underlying49;have hu91:=Try.underlying91;have HR0:=am_ hr0;have HC0:=am_ hc0;clear hr0 hc0;have HB:=am_ (Below.refl w.heap.size w);have H : ((spec_l01Lies.f l0 a1_0 a1_1 a1_2 a1_3).bind fun t245=>(if t245 = true then ((spec_l01Lay.f k l0).bind fun bt246=>(if bt246.1.length = 144 then (spec_l01Can.l0 k a1_1 a1_0 a1_1 a1_2 a1_3 bt246.1) else (none))) else (some false))) = some r:=h;clear h;replace H:=Option.bind_eq_some_iff.mp H;obtain ⟨t245,A30,H⟩:=H;replace H : (if t245 = true then ((spec_l01Lay.f k l0).bind fun bt246=>(if bt246.1.length = 144 then (spec_l01Can.l0 k a1_1 a1_0 a1_1 a1_2 a1_3 bt246.1) else (none))) else (some false)) = some r:=H;have A3:=am_ A30;clear A30
 by_cases c4 : t245 = true
 ·
  subst c4;have H1 : ((spec_l01Lay.f k l0).bind fun bt246=>(if bt246.1.length = 144 then (spec_l01Can.l0 k a1_1 a1_0 a1_1 a1_2 a1_3 bt246.1) else (none))) = some r:=by rw [if_pos rfl] at H;exact H
  clear H;have H:=H1;clear H1;replace H:=Option.bind_eq_some_iff.mp H;obtain ⟨⟨t246,t247⟩,A50,H⟩:=H;replace H : (if t246.length = 144 then (spec_l01Can.l0 k a1_1 a1_0 a1_1 a1_2 a1_3 t246) else (none)) = some r:=H;have A5:=am_ A50;clear A50
  by_cases c6 : t246.length = 144
  ·
   rw [if_pos c6] at H;have c6b0:=eq_true c6;have c6b1 : decide (t246.length = 144) = true:=decide_eq_true c6;clear c6;have H':=am_ H;clear H
   go_enter Try.func60,Try.ntmps60
   go_wp2_with (first|((with_reducible refine gate_dst (N:=3) rfl ?_);refine box_event ?hg (N:=3) ?hd (cs:=#[.int .i8 a1_0,.int .i8 a1_1,.int .i8 a1_2,.int .i8 a1_3]) (t:=49) ?hr ?_;(case hd=>rfl);(case hg=>rfl);(case hr=>first|(go_simp;done)|(go_simp;rfl));intro gb244 hg w7 hbox hb;have n0_:=am_ (bT_ HB.out hb);have n1_:=am_ (hbox);have n2_:=am_ ((by rw [hg];exact (bZ_ HB.out) : w.heap.size≤gb244));have n3_:=n2_;clear HB;have HB:=n0_;have BK244:=n1_;have GW244:=n2_;have GE244:=n3_;clear n0_ n1_ n2_ n3_;clear hb hbox hg;have hcz8_0 : w7.cell? ⟨gb244,0,none⟩ = some (.int .i8 a1_0):=(kC_ BK244.out 0).trans rfl;have hcz8_1 : w7.cell? ⟨gb244,1,none⟩ = some (.int .i8 a1_1):=(kC_ BK244.out 1).trans rfl;have hcz8_2 : w7.cell? ⟨gb244,2,none⟩ = some (.int .i8 a1_2):=(kC_ BK244.out 2).trans rfl;have hcz8_3 : w7.cell? ⟨gb244,3,none⟩ = some (.int .i8 a1_3):=(kC_ BK244.out 3).trans rfl;have hfz8_0:=kF_ BK244.out 0;have hfz8_1:=kF_ BK244.out 1;have hfz8_2:=kF_ BK244.out 2;have hfz8_3:=kF_ BK244.out 3)|((with_reducible refine gate_callee (f:=67) rfl ?_);refine goesL_ (some 11) rfl rfl Try.func67 (by kernel_rfl) rfl #[.pointer A0,.agg #[.int .i8 a1_0,.int .i8 a1_1,.int .i8 a1_2,.int .i8 a1_3]] rfl (by (try simp only [List.map_toArray,List.map_cons,List.map_nil]);first|done|rfl|(simp only [List.length_drop,List.length_take];rfl)) ?_;(with_reducible refine (spec_l01Lies.calls _ c0 l0 a1_0 a1_1 a1_2 a1_3 true _ ?side1 ?side2 A3.out).mono ?_);(case side1=>repeat (first|exact (cB_ HR0.out HB.out)|(with_reducible refine Kd.C_alloc ?_ _)|(with_reducible refine Kd.C_drewN ?_ _)|(with_reducible refine Kd.C_drew ?_)));(case side2=>exact HC0.out);rintro e w9 ⟨rfl,hb⟩;refine ⟨_,rfl,?_⟩;have n0_:=am_ (kB_ BK244.out hb);have n1_:=am_ (bT_ HB.out hb);clear BK244;clear HB;have BK244:=n0_;have HB:=n1_;clear n0_ n1_;(try clear hb);(try clear hb2);(try clear hk);(try clear hi))|((with_reducible refine gate_callee (f:=72) rfl ?_);refine goesL_ (some 15) rfl rfl Try.func72 (by kernel_rfl) rfl #[.pointer A0] rfl (by (try simp only [List.map_toArray,List.map_cons,List.map_nil]);first|done|rfl|(simp only [List.length_drop,List.length_take];rfl)) ?_;(with_reducible refine (spec_l01Lay.calls k _ c0 l0 t246 t247 _ ?side1 ?side2 A5.out).mono ?_);(case side1=>repeat (first|exact (cB_ HR0.out HB.out)|(with_reducible refine Kd.C_alloc ?_ _)|(with_reducible refine Kd.C_drewN ?_ _)|(with_reducible refine Kd.C_drew ?_)));(case side2=>exact HC0.out);rintro e w10 ⟨rfl,hb⟩;refine ⟨_,rfl,?_⟩;have n0_:=am_ (kB_ BK244.out hb);have n1_:=am_ (bT_ HB.out hb);clear BK244;clear HB;have BK244:=n0_;have HB:=n1_;clear n0_ n1_;(try clear hb);(try clear hb2);(try clear hk);(try clear hi))|((with_reducible refine gate_dst (N:=5) rfl ?_);refine box_event ?hg (N:=5) ?hd (cs:=(arrC .i64 (arrZ 144))) (t:=91) ?hr ?_;(case hd=>rfl);(case hg=>rfl);(case hr=>exact arr_alloc rfl .i64 144 (by kernel_rfl));intro gb248 hg w11 hbox hb;have n0_:=am_ (kB_ BK244.out hb);have n1_:=am_ (bT_ HB.out hb);have n2_:=am_ (hbox);have n3_:=am_ ((by rw [hg];exact (bZ_ HB.out) : w.heap.size≤gb248));have n4_:=n3_;have n5_:=am_ ((by rw [hg];exact nL_ (kL_ BK244.out) : gb244 ≠ gb248));have n6_:=am_ ((by rw [hg];exact nG_ (kL_ BK244.out) : gb248 ≠ gb244));clear BK244;clear HB;have BK244:=n0_;have HB:=n1_;have BK248:=n2_;have GW248:=n3_;have GE248:=n4_;have NB244_248:=n5_;have NB248_244:=n6_;clear n0_ n1_ n2_ n3_ n4_ n5_ n6_;clear hb hbox hg)|((with_reducible refine gate_store (t:=91) (p:=5) rfl ?_);refine arr_store (p:=5) (v:=?vv_w12) (n:=144) (k:=.i64) (g:=gb248) (l:=(arrZ 144)) (l2:=t246) ?hg ?hn (t:=91) ?ho ?hp ?hv BK248.out (by kernel_rfl) (arrZ_length _) (od_ (by first|(with_reducible assumption)|assumption)) ?_;(case ho=>rfl);(case hg=>rfl);(case hn=>rfl);(case hp=>rfl);(case hv=>rfl);intro w12 hg hx;have n0_:=am_ (blk_grown (g:=gb244) (o:=.cells #[.int .i8 a1_0,.int .i8 a1_1,.int .i8 a1_2,.int .i8 a1_3] 49 (0,0)) BK244.out hg (fun e_=>NB244_248.out (Option.some.inj e_)));have n1_:=am_ (hx);have n2_:=am_ (Below.grown HB.out hg (bZ_ HB.out) (fun k_ e_=>by cases e_;exact GE248.out));clear BK244;clear BK248;clear HB;have BK244:=n0_;have BK248:=n1_;have HB:=n2_;clear n0_ n1_ n2_;clear hg hx;have hnb13:=NB244_248.out;have hnc13:=NB248_244.out;have hcz14_0 : w12.cell? ⟨gb244,0,none⟩ = some (.int .i8 a1_0):=(kC_ BK244.out 0).trans rfl;have hcz14_1 : w12.cell? ⟨gb244,1,none⟩ = some (.int .i8 a1_1):=(kC_ BK244.out 1).trans rfl;have hcz14_2 : w12.cell? ⟨gb244,2,none⟩ = some (.int .i8 a1_2):=(kC_ BK244.out 2).trans rfl;have hcz14_3 : w12.cell? ⟨gb244,3,none⟩ = some (.int .i8 a1_3):=(kC_ BK244.out 3).trans rfl;have hfz14_0:=kF_ BK244.out 0;have hfz14_1:=kF_ BK244.out 1;have hfz14_2:=kF_ BK244.out 2;have hfz14_3:=kF_ BK244.out 3))
   go_loopg [7] k (fun kq v7 w'=>∃ (x7_1 : Int),v7 = .int .i8 x7_1 ∧ Aside0 (spec_l01Can.l0 kq x7_1 a1_0 a1_1 a1_2 a1_3 t246 = some r) ∧ Aside0 (kq≤k) ∧ Aside0 (w'.heap[gb244]? = some (.cells #[.int .i8 a1_0,.int .i8 a1_1,.int .i8 a1_2,.int .i8 a1_3] 49 (0,0))) ∧ Aside0 (w'.heap[gb248]? = some (.cells (arrC .i64 t246) 91 (0,0))) ∧ Aside0 (Below w.heap.size w w'))
   case atStart=>exact ⟨(a1_1),(by first|rfl|(simp;done)|(simp [*];done)),H',⟨Nat.le_refl _⟩,⟨by (with_reducible repeat (first|apply kN_|apply kD_|apply kA_));exact BK244.out⟩,⟨by (with_reducible repeat (first|apply kN_|apply kD_|apply kA_));exact BK248.out⟩,⟨by repeat (first|(with_reducible first|exact HB.out|apply bA_|apply bN_|apply bD_|refine bS_ ?_ GE244.out|refine bS_ ?_ GE248.out)|exact HB.out)⟩⟩
   case round =>
    clear H';(try clear c1);(try clear p2);(try clear c4);(try clear c6);(try clear c6b0);(try clear c6b1);(try clear c7);(try clear c13);(try clear hcz14_0);(try clear hcz14_1);(try clear hcz14_2);(try clear hcz14_3);(try clear hcz8_0);(try clear hcz8_1);(try clear hcz8_2);(try clear hcz8_3);(try clear hfz14_0);(try clear hfz14_1);(try clear hfz14_2);(try clear hfz14_3);(try clear hfz8_0);(try clear hfz8_1);(try clear hfz8_2);(try clear hfz8_3);obtain ⟨x7_1,rfl,HA,HK1,BK244,BK248,HB⟩:=hrel
    cases gk with
    | zero=>exact absurd HA.out (by simp [spec_l01Can.l0])
    | succ k1 =>
     have H:=HA.out;clear HA;simp only [spec_l01Can.l0] at H
     by_cases c15 : x7_1 < (IntKind.i8.wrap (a1_1 + a1_3))
     ·
      rw [if_pos c15] at H;have c15b0 : decide (x7_1 < (IntKind.i8.wrap (a1_1 + a1_3))) = true:=decide_eq_true c15;clear c15;have H':=am_ H;clear H;have hnb16:=NB244_248.out;have hnc16:=NB248_244.out;have hcz17_0 : wr.cell? ⟨gb244,0,none⟩ = some (.int .i8 a1_0):=(kC_ BK244.out 0).trans rfl;have hcz17_1 : wr.cell? ⟨gb244,1,none⟩ = some (.int .i8 a1_1):=(kC_ BK244.out 1).trans rfl;have hcz17_2 : wr.cell? ⟨gb244,2,none⟩ = some (.int .i8 a1_2):=(kC_ BK244.out 2).trans rfl;have hcz17_3 : wr.cell? ⟨gb244,3,none⟩ = some (.int .i8 a1_3):=(kC_ BK244.out 3).trans rfl;have hfz17_0:=kF_ BK244.out 0;have hfz17_1:=kF_ BK244.out 1;have hfz17_2:=kF_ BK244.out 2;have hfz17_3:=kF_ BK244.out 3
      go_wp2
      go_loopg [8] k1 (fun kq v8 w'=>∃ (x8_2 : Int),v8 = .int .i8 x8_2 ∧ Aside0 (spec_l01Can.l1 kq x7_1 x8_2 a1_0 a1_1 a1_2 a1_3 t246 = some r) ∧ Aside0 (kq≤k1) ∧ Aside0 (w'.heap[gb244]? = some (.cells #[.int .i8 a1_0,.int .i8 a1_1,.int .i8 a1_2,.int .i8 a1_3] 49 (0,0))) ∧ Aside0 (w'.heap[gb248]? = some (.cells (arrC .i64 t246) 91 (0,0))) ∧ Aside0 (Below w.heap.size w w'))
      case atStart=>exact ⟨(a1_0),(by first|rfl|(simp;done)|(simp [*];done)),H',⟨Nat.le_refl _⟩,⟨by (with_reducible repeat (first|apply kN_|apply kD_|apply kA_));exact BK244.out⟩,⟨by (with_reducible repeat (first|apply kN_|apply kD_|apply kA_));exact BK248.out⟩,⟨by repeat (first|(with_reducible first|exact HB.out|apply bA_|apply bN_|apply bD_|refine bS_ ?_ GE244.out|refine bS_ ?_ GE248.out)|exact HB.out)⟩⟩
      case round =>
       clear H';(try clear c1);(try clear p2);(try clear c4);(try clear c6);(try clear c6b0);(try clear c6b1);(try clear c7);(try clear c13);(try clear c15);(try clear c15b0);(try clear c16);(try clear hcz14_0);(try clear hcz14_1);(try clear hcz14_2);(try clear hcz14_3);(try clear hcz17_0);(try clear hcz17_1);(try clear hcz17_2);(try clear hcz17_3);(try clear hcz8_0);(try clear hcz8_1);(try clear hcz8_2);(try clear hcz8_3);(try clear hfz14_0);(try clear hfz14_1);(try clear hfz14_2);(try clear hfz14_3);(try clear hfz17_0);(try clear hfz17_1);(try clear hfz17_2);(try clear hfz17_3);(try clear hfz8_0);(try clear hfz8_1);(try clear hfz8_2);(try clear hfz8_3);(try clear p2);obtain ⟨x8_2,rfl,HA,HK2,BK244,BK248,HB⟩:=hrel
       cases gk with
       | zero=>exact absurd HA.out (by simp [spec_l01Can.l1])
       | succ k2 =>
        have H:=HA.out;clear HA;simp only [spec_l01Can.l1] at H
        by_cases c18 : x8_2 < (IntKind.i8.wrap (a1_0 + a1_2))
        ·
         rw [if_pos c18] at H;have c18b0 : decide (x8_2 < (IntKind.i8.wrap (a1_0 + a1_2))) = true:=decide_eq_true c18;clear c18
         by_cases c19 : 0≤x7_1
         ·
          rw [if_pos c19] at H;have c19b0 : decide (0≤x7_1) = true:=decide_eq_true c19;clear c19
          by_cases c20 : x7_1 < 12
          ·
           rw [if_pos c20] at H;have c20b0 : decide (x7_1 < 12) = true:=decide_eq_true c20;clear c20
           by_cases c22 : 0≤x8_2
           ·
            rw [if_pos c22] at H;have c22b0 : decide (0≤x8_2) = true:=decide_eq_true c22;clear c22
            by_cases c23 : x8_2 < 12
            ·
             rw [if_pos c23] at H;have c23b0 : decide (x8_2 < 12) = true:=decide_eq_true c23;clear c23
             by_cases c25 : x7_1 * 12 + x8_2 < (t246.length : Int)
             ·
              rw [if_pos c25] at H;have c25b0:=eq_true c25;have c25b1 : decide (x7_1 * 12 + x8_2 < (t246.length : Int)) = true:=decide_eq_true c25
              by_cases c26 : (rd t246 (x7_1 * 12 + x8_2)) = 0
              ·
               rw [if_pos c26] at H;have c26b0 : ((rd t246 (x7_1 * 12 + x8_2)) == 0) = true:=beq_iff_eq.mpr c26;have c26b1 : ((rd t246 (x7_1 * 12 + x8_2)) != 0) = false:=bne_eq_false_iff_eq.mpr c26;clear c26;have H':=am_ H;clear H;have hnb27:=NB244_248.out;have hnc27:=NB248_244.out;have hcz28_0 : wr.cell? ⟨gb244,0,none⟩ = some (.int .i8 a1_0):=(kC_ BK244.out 0).trans rfl;have hcz28_1 : wr.cell? ⟨gb244,1,none⟩ = some (.int .i8 a1_1):=(kC_ BK244.out 1).trans rfl;have hcz28_2 : wr.cell? ⟨gb244,2,none⟩ = some (.int .i8 a1_2):=(kC_ BK244.out 2).trans rfl;have hcz28_3 : wr.cell? ⟨gb244,3,none⟩ = some (.int .i8 a1_3):=(kC_ BK244.out 3).trans rfl;have hfz28_0:=kF_ BK244.out 0;have hfz28_1:=kF_ BK244.out 1;have hfz28_2:=kF_ BK244.out 2;have hfz28_3:=kF_ BK244.out 3;have p21 : 0≤(x7_1 : Int):=od_ (by first|(with_reducible assumption)|assumption);have q21 : (x7_1 : Int) < (12 : Int):=od_ (by first|(with_reducible assumption)|assumption);replace p21:=eq_true p21;replace q21:=eq_true q21;have p24 : 0≤(x8_2 : Int):=od_ (by first|(with_reducible assumption)|assumption);have q24 : (x8_2 : Int) < (12 : Int):=od_ (by first|(with_reducible assumption)|assumption);replace p24:=eq_true p24;replace q24:=eq_true q24;have haz29 : wr.cell? ⟨gb248,x7_1.toNat * 12 + x8_2.toNat,none⟩ = some (.int .i64 (rd t246 (x7_1 * 12 + x8_2))):=arr_cell BK248.out (x7_1 * 12 + x8_2) _ (by have h0_ : (0 : Int)≤x7_1:=od_ (by first|(with_reducible assumption)|assumption);have h1_ : (0 : Int)≤x8_2:=od_ (by first|(with_reducible assumption)|assumption);omega) (od_ (by first|(with_reducible assumption)|assumption))
               go_wp2
               go_roundg k2
               case measure=>have:=HK1.out;have:=HK2.out;omega
               case rel=>exact ⟨(IntKind.i8.wrap (x8_2 + 1)),(by first|rfl|(simp;done)|(simp [*];done)),H',⟨by have:=HK1.out;have:=HK2.out;omega⟩,⟨by (with_reducible repeat (first|apply kN_|apply kD_|apply kA_));exact BK244.out⟩,⟨by (with_reducible repeat (first|apply kN_|apply kD_|apply kA_));exact BK248.out⟩,⟨by repeat (first|(with_reducible first|exact HB.out|apply bA_|apply bN_|apply bD_|refine bS_ ?_ GE244.out|refine bS_ ?_ GE248.out)|exact HB.out)⟩⟩
              ·
               rw [if_neg c26] at H;have c26b0 : ((rd t246 (x7_1 * 12 + x8_2)) == 0) = false:=beq_eq_false_iff_ne.mpr c26;have c26b1 : ((rd t246 (x7_1 * 12 + x8_2)) != 0) = true:=bne_iff_ne.mpr c26;obtain rfl:=Option.some.inj H;have hnb30:=NB244_248.out;have hnc30:=NB248_244.out;have hcz31_0 : wr.cell? ⟨gb244,0,none⟩ = some (.int .i8 a1_0):=(kC_ BK244.out 0).trans rfl;have hcz31_1 : wr.cell? ⟨gb244,1,none⟩ = some (.int .i8 a1_1):=(kC_ BK244.out 1).trans rfl;have hcz31_2 : wr.cell? ⟨gb244,2,none⟩ = some (.int .i8 a1_2):=(kC_ BK244.out 2).trans rfl;have hcz31_3 : wr.cell? ⟨gb244,3,none⟩ = some (.int .i8 a1_3):=(kC_ BK244.out 3).trans rfl;have hfz31_0:=kF_ BK244.out 0;have hfz31_1:=kF_ BK244.out 1;have hfz31_2:=kF_ BK244.out 2;have hfz31_3:=kF_ BK244.out 3;have p21 : 0≤(x7_1 : Int):=od_ (by first|(with_reducible assumption)|assumption);have q21 : (x7_1 : Int) < (12 : Int):=od_ (by first|(with_reducible assumption)|assumption);replace p21:=eq_true p21;replace q21:=eq_true q21;have p24 : 0≤(x8_2 : Int):=od_ (by first|(with_reducible assumption)|assumption);have q24 : (x8_2 : Int) < (12 : Int):=od_ (by first|(with_reducible assumption)|assumption);replace p24:=eq_true p24;replace q24:=eq_true q24;have haz32 : wr.cell? ⟨gb248,x7_1.toNat * 12 + x8_2.toNat,none⟩ = some (.int .i64 (rd t246 (x7_1 * 12 + x8_2))):=arr_cell BK248.out (x7_1 * 12 + x8_2) _ (by have h0_ : (0 : Int)≤x7_1:=od_ (by first|(with_reducible assumption)|assumption);have h1_ : (0 : Int)≤x8_2:=od_ (by first|(with_reducible assumption)|assumption);omega) (od_ (by first|(with_reducible assumption)|assumption))
               go_wp2
               go_ret
               exact ⟨by first|rfl|(simp [errW_none,errW_some] <;> rfl)|(simp [*,errW_none,errW_some] <;> rfl),by repeat (first|(with_reducible first|exact HB.out|apply bA_|apply bN_|apply bD_|refine bS_ ?_ GE244.out|refine bS_ ?_ GE248.out)|exact HB.out)⟩
             ·
              rw [if_neg c25] at H;exact absurd H (by simp)
            ·
             rw [if_neg c23] at H;exact absurd H (by simp)
           ·
            rw [if_neg c22] at H;exact absurd H (by simp)
          ·
           rw [if_neg c20] at H;exact absurd H (by simp)
         ·
          rw [if_neg c19] at H;exact absurd H (by simp)
        ·
         rw [if_neg c18] at H;have c18b0 : decide (x8_2 < (IntKind.i8.wrap (a1_0 + a1_2))) = false:=decide_eq_false c18;clear c18;have H':=am_ H;clear H;have hnb33:=NB244_248.out;have hnc33:=NB248_244.out;have hcz34_0 : wr.cell? ⟨gb244,0,none⟩ = some (.int .i8 a1_0):=(kC_ BK244.out 0).trans rfl;have hcz34_1 : wr.cell? ⟨gb244,1,none⟩ = some (.int .i8 a1_1):=(kC_ BK244.out 1).trans rfl;have hcz34_2 : wr.cell? ⟨gb244,2,none⟩ = some (.int .i8 a1_2):=(kC_ BK244.out 2).trans rfl;have hcz34_3 : wr.cell? ⟨gb244,3,none⟩ = some (.int .i8 a1_3):=(kC_ BK244.out 3).trans rfl;have hfz34_0:=kF_ BK244.out 0;have hfz34_1:=kF_ BK244.out 1;have hfz34_2:=kF_ BK244.out 2;have hfz34_3:=kF_ BK244.out 3
         go_wp2
         go_roundg k2
         case measure=>have:=HK1.out;have:=HK2.out;omega
         case rel=>exact ⟨(IntKind.i8.wrap (x7_1 + 1)),(by first|rfl|(simp;done)|(simp [*];done)),H',⟨by have:=HK1.out;have:=HK2.out;omega⟩,⟨by (with_reducible repeat (first|apply kN_|apply kD_|apply kA_));exact BK244.out⟩,⟨by (with_reducible repeat (first|apply kN_|apply kD_|apply kA_));exact BK248.out⟩,⟨by repeat (first|(with_reducible first|exact HB.out|apply bA_|apply bN_|apply bD_|refine bS_ ?_ GE244.out|refine bS_ ?_ GE248.out)|exact HB.out)⟩⟩
     ·
      rw [if_neg c15] at H;have c15b0 : decide (x7_1 < (IntKind.i8.wrap (a1_1 + a1_3))) = false:=decide_eq_false c15;clear c15;obtain rfl:=Option.some.inj H;have hnb35:=NB244_248.out;have hnc35:=NB248_244.out;have hcz36_0 : wr.cell? ⟨gb244,0,none⟩ = some (.int .i8 a1_0):=(kC_ BK244.out 0).trans rfl;have hcz36_1 : wr.cell? ⟨gb244,1,none⟩ = some (.int .i8 a1_1):=(kC_ BK244.out 1).trans rfl;have hcz36_2 : wr.cell? ⟨gb244,2,none⟩ = some (.int .i8 a1_2):=(kC_ BK244.out 2).trans rfl;have hcz36_3 : wr.cell? ⟨gb244,3,none⟩ = some (.int .i8 a1_3):=(kC_ BK244.out 3).trans rfl;have hfz36_0:=kF_ BK244.out 0;have hfz36_1:=kF_ BK244.out 1;have hfz36_2:=kF_ BK244.out 2;have hfz36_3:=kF_ BK244.out 3
      go_wp2
      go_ret
      exact ⟨by first|rfl|(simp [errW_none,errW_some] <;> rfl)|(simp [*,errW_none,errW_some] <;> rfl),by repeat (first|(with_reducible first|exact HB.out|apply bA_|apply bN_|apply bD_|refine bS_ ?_ GE244.out|refine bS_ ?_ GE248.out)|exact HB.out)⟩
  ·
   rw [if_neg c6] at H;exact absurd H (by simp)
 ·
  replace c4:=Bool.eq_false_iff.mpr c4;subst c4;have H1 : (some false) = some r:=by rw [if_neg (show ¬ (false = true) by decide)] at H;exact H
  clear H;have H:=H1;clear H1;obtain rfl:=Option.some.inj H
  go_enter Try.func60,Try.ntmps60
  go_wp2_with (first|((with_reducible refine gate_dst (N:=3) rfl ?_);refine box_event ?hg (N:=3) ?hd (cs:=#[.int .i8 a1_0,.int .i8 a1_1,.int .i8 a1_2,.int .i8 a1_3]) (t:=49) ?hr ?_;(case hd=>rfl);(case hg=>rfl);(case hr=>first|(go_simp;done)|(go_simp;rfl));intro gb244 hg w37 hbox hb;have n0_:=am_ (bT_ HB.out hb);have n1_:=am_ (hbox);have n2_:=am_ ((by rw [hg];exact (bZ_ HB.out) : w.heap.size≤gb244));have n3_:=n2_;clear HB;have HB:=n0_;have BK244:=n1_;have GW244:=n2_;have GE244:=n3_;clear n0_ n1_ n2_ n3_;clear hb hbox hg;have hcz38_0 : w37.cell? ⟨gb244,0,none⟩ = some (.int .i8 a1_0):=(kC_ BK244.out 0).trans rfl;have hcz38_1 : w37.cell? ⟨gb244,1,none⟩ = some (.int .i8 a1_1):=(kC_ BK244.out 1).trans rfl;have hcz38_2 : w37.cell? ⟨gb244,2,none⟩ = some (.int .i8 a1_2):=(kC_ BK244.out 2).trans rfl;have hcz38_3 : w37.cell? ⟨gb244,3,none⟩ = some (.int .i8 a1_3):=(kC_ BK244.out 3).trans rfl;have hfz38_0:=kF_ BK244.out 0;have hfz38_1:=kF_ BK244.out 1;have hfz38_2:=kF_ BK244.out 2;have hfz38_3:=kF_ BK244.out 3)|((with_reducible refine gate_callee (f:=67) rfl ?_);refine goesL_ (some 11) rfl rfl Try.func67 (by kernel_rfl) rfl #[.pointer A0,.agg #[.int .i8 a1_0,.int .i8 a1_1,.int .i8 a1_2,.int .i8 a1_3]] rfl (by (try simp only [List.map_toArray,List.map_cons,List.map_nil]);first|done|rfl|(simp only [List.length_drop,List.length_take];rfl)) ?_;(with_reducible refine (spec_l01Lies.calls _ c0 l0 a1_0 a1_1 a1_2 a1_3 false _ ?side1 ?side2 A3.out).mono ?_);(case side1=>repeat (first|exact (cB_ HR0.out HB.out)|(with_reducible refine Kd.C_alloc ?_ _)|(with_reducible refine Kd.C_drewN ?_ _)|(with_reducible refine Kd.C_drew ?_)));(case side2=>exact HC0.out);rintro e w39 ⟨rfl,hb⟩;refine ⟨_,rfl,?_⟩;have n0_:=am_ (kB_ BK244.out hb);have n1_:=am_ (bT_ HB.out hb);clear BK244;clear HB;have BK244:=n0_;have HB:=n1_;clear n0_ n1_;(try clear hb);(try clear hb2);(try clear hk);(try clear hi)))
  go_ret
  exact ⟨by first|rfl|(simp [errW_none,errW_some] <;> rfl)|(simp [*,errW_none,errW_some] <;> rfl),by repeat (first|(with_reducible first|exact HB.out|apply bA_|apply bN_|apply bD_|refine bS_ ?_ GE244.out)|exact HB.out)⟩
end Go.Proofs.Ytjadgmafgkoanaa.Q
