-- Trimmed by a program.
import Derived.Test.YtjadgmafgkoanaaXQ0
import Derived.Test.YtjadgmafgkoanaaXQ5
namespace Go.Proofs.Ytjadgmafgkoanaa.Q
open RowKit YtjadgmafgkoanaaW.PrintWords YtjadgmafgkoanaaW.PrintLast YtjadgmafgkoanaaW.PrintMore
attribute [local go_sem] max2_int min2_int max_two min_two max_three min_three max_four min_four
set_option linter.unusedVariables false
set_option linter.unusedSimpArgs false
def spec_l01Ok.f (k : Nat) (l0 : List (S29)) : Option (Bool) := (spec_l01Lay.f k l0).bind fun bt241 => (if bt241.1.length = 144 then (some bt241.2) else (none))
theorem spec_l01Ok.mono : ∀ a0 k, LeO (spec_l01Ok.f k a0) (spec_l01Ok.f (k + 1) a0) := by
 intro a0 k
 unfold spec_l01Ok.f
 repeat' first
   | (with_reducible exact spec_l01Lay.mono _ _)
   | (with_reducible exact LeO.refl _)
   | (with_reducible exact LeO.none _)
   | (with_reducible refine LeO.ite ?_ ?_)
   | (with_reducible refine LeO.bind ?_ (fun _=>?_))
   | exact spec_l01Lay.mono _ _
   | exact LeO.none _
   | refine LeO.ite ?_ ?_
   | refine LeO.bind ?_ (fun _=>?_)
set_option maxHeartbeats 8000000 in
set_option maxRecDepth 100000 in
theorem spec_l01Ok.calls (k : Nat) (A0 : Option Addr) (c0 : Nat) (l0 : List (S29)) (r : Bool) (w : World) (hr0 : Kd.C k29 w A0 l0.length l0) (hc0 : l0.length ≤ c0) (h : spec_l01Ok.f k l0 = some r) :
  Calls Try.prog 53 #[.pointer A0] w fun e w'=>e = .returned (.bool r) ∧ Below w.heap.size w w':=by
 have hu91:=Try.underlying91;have HR0:=am_ hr0;have HC0:=am_ hc0;clear hr0 hc0;have HB:=am_ (Below.refl w.heap.size w);have H : ((spec_l01Lay.f k l0).bind fun bt241=>(if bt241.1.length = 144 then (some bt241.2) else (none))) = some r:=h;clear h;replace H:=Option.bind_eq_some_iff.mp H;obtain ⟨⟨t241,t242⟩,A20,H⟩:=H;replace H : (if t241.length = 144 then (some t242) else (none)) = some r:=H;have A2:=am_ A20;clear A20
 by_cases c3 : t241.length = 144
 ·
  rw [if_pos c3] at H;have c3b0:=eq_true c3;have c3b1 : decide (t241.length = 144) = true:=decide_eq_true c3;clear c3;obtain rfl:=Option.some.inj H
  go_enter Try.func53,Try.ntmps53
  go_wp2_with (first|((with_reducible refine gate_callee (f:=72) rfl ?_);refine goesL_ (some 7) rfl rfl Try.func72 (by kernel_rfl) rfl #[.pointer A0] rfl (by (try simp only [List.map_toArray,List.map_cons,List.map_nil]);first|done|rfl|(simp only [List.length_drop,List.length_take];rfl)) ?_;(with_reducible refine (spec_l01Lay.calls k _ c0 l0 t241 t242 _ ?side1 ?side2 A2.out).mono ?_);(case side1=>repeat (first|exact HR0.out|(with_reducible refine Kd.C_alloc ?_ _)|(with_reducible refine Kd.C_drewN ?_ _)|(with_reducible refine Kd.C_drew ?_)));(case side2=>exact HC0.out);rintro e w4 ⟨rfl,hb⟩;refine ⟨_,rfl,?_⟩;replace HB:=am_ (bT_ HB.out hb);(try clear hb hb2 hk hi))|((with_reducible refine gate_dst (N:=3) rfl ?_);refine box_event ?hg (N:=3) ?hd (cs:=(arrC .i64 (arrZ 144))) (t:=91) ?hr ?_;(case hd=>rfl);(case hg=>rfl);(case hr=>exact arr_alloc rfl .i64 144 (by kernel_rfl));intro gb243 hg w5 hbox hb;have n0_:=am_ (bT_ HB.out hb);have n1_:=am_ (hbox);have n2_:=am_ ((by rw [hg];exact (bZ_ HB.out) : w.heap.size≤gb243));have n3_:=n2_;clear HB;have HB:=n0_;have BK243:=n1_;have GW243:=n2_;have GE243:=n3_;clear n0_ n1_ n2_ n3_;clear hb hbox hg)|((with_reducible refine gate_store (t:=91) (p:=3) rfl ?_);refine arr_store (p:=3) (v:=?vv_w6) (n:=144) (k:=.i64) (g:=gb243) (l:=(arrZ 144)) (l2:=t241) ?hg ?hn (t:=91) ?ho ?hp ?hv BK243.out (by kernel_rfl) (arrZ_length _) (od_ (by first|(with_reducible assumption)|assumption)) ?_;(case ho=>rfl);(case hg=>rfl);(case hn=>rfl);(case hp=>rfl);(case hv=>rfl);intro w6 hg hx;have n0_:=am_ (hx);have n1_:=am_ (Below.grown HB.out hg (bZ_ HB.out) (fun k_ e_=>by cases e_;exact GE243.out));clear BK243;clear HB;have BK243:=n0_;have HB:=n1_;clear n0_ n1_;clear hg hx))
  go_ret
  exact ⟨by first|rfl|(simp [errW_none,errW_some] <;> rfl)|(simp [*,errW_none,errW_some] <;> rfl),by repeat (first|(with_reducible first|exact HB.out|apply bA_|apply bN_|apply bD_|refine bS_ ?_ GE243.out)|exact HB.out)⟩
 · rw [if_neg c3] at H;exact absurd H (by simp)
mutual
def spec_l01Can.l0 : Nat → Int → Int → Int → Int → Int → List Int → Option (Bool)
 | 0,_,_,_,_,_,_=>none
 | k + 1,x7,x245000,x245001,x245002,x245003,x249000=>if x7 < (IntKind.i8.wrap (x245001 + x245003)) then (spec_l01Can.l1 k x7 x245000 x245000 x245001 x245002 x245003 x249000) else (some true)
def spec_l01Can.l1 : Nat → Int → Int → Int → Int → Int → Int → List Int → Option (Bool)
 | 0,_,_,_,_,_,_,_=>none
 | k + 1,x7,x8,x245000,x245001,x245002,x245003,x249000=>if x8 < (IntKind.i8.wrap (x245000 + x245002)) then (if 0≤x7 then (if x7 < 12 then (if 0≤x8 then (if x8 < 12 then (if x7 * 12 + x8 < (x249000.length : Int) then (if (rd x249000 (x7 * 12 + x8)) = 0 then (spec_l01Can.l1 k x7 (IntKind.i8.wrap (x8 + 1)) x245000 x245001 x245002 x245003 x249000) else (some false)) else (none)) else (none)) else (none)) else (none)) else (none)) else (spec_l01Can.l0 k (IntKind.i8.wrap (x7 + 1)) x245000 x245001 x245002 x245003 x249000)
end
def spec_l01Can.f (k : Nat) (l0 : List (S29)) (a1_0 : Int) (a1_1 : Int) (a1_2 : Int) (a1_3 : Int) : Option (Bool) := (spec_l01Lies.f l0 a1_0 a1_1 a1_2 a1_3).bind fun t245 => (if t245 = true then ((spec_l01Lay.f k l0).bind fun bt246 => (if bt246.1.length = 144 then (spec_l01Can.l0 k a1_1 a1_0 a1_1 a1_2 a1_3 bt246.1) else (none))) else (some false))
theorem spec_l01Can.mono_l : ∀ k, (∀ y0 y1 y2 y3 y4 y5, LeO (spec_l01Can.l0 k y0 y1 y2 y3 y4 y5) (spec_l01Can.l0 (k + 1) y0 y1 y2 y3 y4 y5)) ∧ (∀ y0 y1 y2 y3 y4 y5 y6, LeO (spec_l01Can.l1 k y0 y1 y2 y3 y4 y5 y6) (spec_l01Can.l1 (k + 1) y0 y1 y2 y3 y4 y5 y6))
 | 0=>⟨fun _ _ _ _ _ _ r h=>by simp [spec_l01Can.l0] at h,fun _ _ _ _ _ _ _ r h=>by simp [spec_l01Can.l1] at h⟩
 | k + 1=>by
  obtain ⟨ih0,ih1⟩:=spec_l01Can.mono_l k;refine ⟨?_,?_⟩
  ·
   intro y0 y1 y2 y3 y4 y5
   unfold spec_l01Can.l0
   repeat' first
   | (with_reducible exact ih0 _ _ _ _ _ _)
   | (with_reducible exact ih1 _ _ _ _ _ _ _)
   | (with_reducible exact spec_l01Lay.mono _ _)
   | (with_reducible exact LeO.refl _)
   | (with_reducible exact LeO.none _)
   | (with_reducible refine LeO.ite ?_ ?_)
   | (with_reducible refine LeO.bind ?_ (fun _=>?_))
   | exact ih0 _ _ _ _ _ _
   | exact ih1 _ _ _ _ _ _ _
   | exact spec_l01Lay.mono _ _
   | exact LeO.none _
   | refine LeO.ite ?_ ?_
   | refine LeO.bind ?_ (fun _=>?_)
  ·
   intro y0 y1 y2 y3 y4 y5 y6
   unfold spec_l01Can.l1
   repeat' first
   | (with_reducible exact ih0 _ _ _ _ _ _)
   | (with_reducible exact ih1 _ _ _ _ _ _ _)
   | (with_reducible exact spec_l01Lay.mono _ _)
   | (with_reducible exact LeO.refl _)
   | (with_reducible exact LeO.none _)
   | (with_reducible refine LeO.ite ?_ ?_)
   | (with_reducible refine LeO.bind ?_ (fun _=>?_))
   | exact ih0 _ _ _ _ _ _
   | exact ih1 _ _ _ _ _ _ _
   | exact spec_l01Lay.mono _ _
   | exact LeO.none _
   | refine LeO.ite ?_ ?_
   | refine LeO.bind ?_ (fun _=>?_)
theorem spec_l01Can.mono : ∀ a0 a1 a2 a3 a4 k, LeO (spec_l01Can.f k a0 a1 a2 a3 a4) (spec_l01Can.f (k + 1) a0 a1 a2 a3 a4) := by
 intro a0 a1 a2 a3 a4 k;obtain ⟨ih0,ih1⟩:=spec_l01Can.mono_l k
 unfold spec_l01Can.f
 repeat' first
   | (with_reducible exact ih0 _ _ _ _ _ _)
   | (with_reducible exact ih1 _ _ _ _ _ _ _)
   | (with_reducible exact spec_l01Lay.mono _ _)
   | (with_reducible exact LeO.refl _)
   | (with_reducible exact LeO.none _)
   | (with_reducible refine LeO.ite ?_ ?_)
   | (with_reducible refine LeO.bind ?_ (fun _=>?_))
   | exact ih0 _ _ _ _ _ _
   | exact ih1 _ _ _ _ _ _ _
   | exact spec_l01Lay.mono _ _
   | exact LeO.none _
   | refine LeO.ite ?_ ?_
   | refine LeO.bind ?_ (fun _=>?_)
set_option maxHeartbeats 8000000 in
set_option maxRecDepth 100000 in
theorem spec_l01Can.calls (k : Nat) (A0 : Option Addr) (c0 : Nat) (l0 : List (S29)) (a1_0 : Int) (a1_1 : Int) (a1_2 : Int) (a1_3 : Int) (r : Bool) (w : World) (hr0 : Kd.C k29 w A0 l0.length l0) (hc0 : l0.length ≤ c0) (h : spec_l01Can.f k l0 a1_0 a1_1 a1_2 a1_3 = some r) :
  Calls Try.prog 60 #[.pointer A0,.agg #[.int .i8 a1_0,.int .i8 a1_1,.int .i8 a1_2,.int .i8 a1_3]] w fun e w'=>e = .returned (.bool r) ∧ Below w.heap.size w w':=by
 have hu49:=Try.underlying49;have hu91:=Try.underlying91;have HR0:=am_ hr0;have HC0:=am_ hc0;clear hr0 hc0;have HB:=am_ (Below.refl w.heap.size w);have H : ((spec_l01Lies.f l0 a1_0 a1_1 a1_2 a1_3).bind fun t245=>(if t245 = true then ((spec_l01Lay.f k l0).bind fun bt246=>(if bt246.1.length = 144 then (spec_l01Can.l0 k a1_1 a1_0 a1_1 a1_2 a1_3 bt246.1) else (none))) else (some false))) = some r:=h;clear h;replace H:=Option.bind_eq_some_iff.mp H;obtain ⟨t245,A30,H⟩:=H;replace H : (if t245 = true then ((spec_l01Lay.f k l0).bind fun bt246=>(if bt246.1.length = 144 then (spec_l01Can.l0 k a1_1 a1_0 a1_1 a1_2 a1_3 bt246.1) else (none))) else (some false)) = some r:=H;have A3:=am_ A30;clear A30
 by_cases c4 : t245 = true
 ·
  subst c4;have H1 : ((spec_l01Lay.f k l0).bind fun bt246=>(if bt246.1.length = 144 then (spec_l01Can.l0 k a1_1 a1_0 a1_1 a1_2 a1_3 bt246.1) else (none))) = some r:=by rw [if_pos rfl] at H;exact H
  clear H;have H:=H1;clear H1;replace H:=Option.bind_eq_some_iff.mp H;obtain ⟨⟨t246,t247⟩,A50,H⟩:=H;replace H : (if t246.length = 144 then (spec_l01Can.l0 k a1_1 a1_0 a1_1 a1_2 a1_3 t246) else (none)) = some r:=H;have A5:=am_ A50;clear A50
  by_cases c6 : t246.length = 144
  ·
   rw [if_pos c6] at H;have c6b0:=eq_true c6;have c6b1 : decide (t246.length = 144) = true:=decide_eq_true c6;clear c6;have H':=am_ H;clear H
   go_enter Try.func60,Try.ntmps60
   go_wp2_with (first|((with_reducible refine gate_dst (N:=3) rfl ?_);refine box_event ?hg (N:=3) ?hd (cs:=#[.int .i8 a1_0,.int .i8 a1_1,.int .i8 a1_2,.int .i8 a1_3]) (t:=49) ?hr ?_;(case hd=>rfl);(case hg=>rfl);(case hr=>first|(go_simp;done)|(go_simp;rfl));intro gb244 hg w7 hbox hb;have n0_:=am_ (bT_ HB.out hb);have n1_:=am_ (hbox);have n2_:=am_ ((by rw [hg];exact (bZ_ HB.out) : w.heap.size≤gb244));have n3_:=n2_;clear HB;have HB:=n0_;have BK244:=n1_;have GW244:=n2_;have GE244:=n3_;clear n0_ n1_ n2_ n3_;clear hb hbox hg;have hcz8_0 : w7.cell? ⟨gb244,0,none⟩ = some (.int .i8 a1_0):=(kC_ BK244.out 0).trans rfl;have hcz8_1 : w7.cell? ⟨gb244,1,none⟩ = some (.int .i8 a1_1):=(kC_ BK244.out 1).trans rfl;have hcz8_2 : w7.cell? ⟨gb244,2,none⟩ = some (.int .i8 a1_2):=(kC_ BK244.out 2).trans rfl;have hcz8_3 : w7.cell? ⟨gb244,3,none⟩ = some (.int .i8 a1_3):=(kC_ BK244.out 3).trans rfl;have hfz8_0:=kF_ BK244.out 0;have hfz8_1:=kF_ BK244.out 1;have hfz8_2:=kF_ BK244.out 2;have hfz8_3:=kF_ BK244.out 3)|((with_reducible refine gate_callee (f:=67) rfl ?_);refine goesL_ (some 11) rfl rfl Try.func67 (by kernel_rfl) rfl #[.pointer A0,.agg #[.int .i8 a1_0,.int .i8 a1_1,.int .i8 a1_2,.int .i8 a1_3]] rfl (by (try simp only [List.map_toArray,List.map_cons,List.map_nil]);first|done|rfl|(simp only [List.length_drop,List.length_take];rfl)) ?_;(with_reducible refine (spec_l01Lies.calls _ c0 l0 a1_0 a1_1 a1_2 a1_3 true _ ?side1 ?side2 A3.out).mono ?_);(case side1=>repeat (first|exact (cB_ HR0.out HB.out)|(with_reducible refine Kd.C_alloc ?_ _)|(with_reducible refine Kd.C_drewN ?_ _)|(with_reducible refine Kd.C_drew ?_)));(case side2=>exact HC0.out);rintro e w9 ⟨rfl,hb⟩;refine ⟨_,rfl,?_⟩;replace BK244:=am_ (kB_ BK244.out hb);replace HB:=am_ (bT_ HB.out hb);(try clear hb hb2 hk hi))|((with_reducible refine gate_callee (f:=72) rfl ?_);refine goesL_ (some 15) rfl rfl Try.func72 (by kernel_rfl) rfl #[.pointer A0] rfl (by (try simp only [List.map_toArray,List.map_cons,List.map_nil]);first|done|rfl|(simp only [List.length_drop,List.length_take];rfl)) ?_;(with_reducible refine (spec_l01Lay.calls k _ c0 l0 t246 t247 _ ?side1 ?side2 A5.out).mono ?_);(case side1=>repeat (first|exact (cB_ HR0.out HB.out)|(with_reducible refine Kd.C_alloc ?_ _)|(with_reducible refine Kd.C_drewN ?_ _)|(with_reducible refine Kd.C_drew ?_)));(case side2=>exact HC0.out);rintro e w10 ⟨rfl,hb⟩;refine ⟨_,rfl,?_⟩;replace BK244:=am_ (kB_ BK244.out hb);replace HB:=am_ (bT_ HB.out hb);(try clear hb hb2 hk hi))|((with_reducible refine gate_dst (N:=5) rfl ?_);refine box_event ?hg (N:=5) ?hd (cs:=(arrC .i64 (arrZ 144))) (t:=91) ?hr ?_;(case hd=>rfl);(case hg=>rfl);(case hr=>exact arr_alloc rfl .i64 144 (by kernel_rfl));intro gb248 hg w11 hbox hb;have n0_:=am_ (kB_ BK244.out hb);have n1_:=am_ (bT_ HB.out hb);have n2_:=am_ (hbox);have n3_:=am_ ((by rw [hg];exact (bZ_ HB.out) : w.heap.size≤gb248));have n4_:=n3_;have n5_:=am_ ((by rw [hg];exact nL_ (kL_ BK244.out) : gb244 ≠ gb248));have n6_:=am_ ((by rw [hg];exact nG_ (kL_ BK244.out) : gb248 ≠ gb244));clear BK244;clear HB;have BK244:=n0_;have HB:=n1_;have BK248:=n2_;have GW248:=n3_;have GE248:=n4_;have NB244_248:=n5_;have NB248_244:=n6_;clear n0_ n1_ n2_ n3_ n4_ n5_ n6_;clear hb hbox hg)|((with_reducible refine gate_store (t:=91) (p:=5) rfl ?_);refine arr_store (p:=5) (v:=?vv_w12) (n:=144) (k:=.i64) (g:=gb248) (l:=(arrZ 144)) (l2:=t246) ?hg ?hn (t:=91) ?ho ?hp ?hv BK248.out (by kernel_rfl) (arrZ_length _) (od_ (by first|(with_reducible assumption)|assumption)) ?_;(case ho=>rfl);(case hg=>rfl);(case hn=>rfl);(case hp=>rfl);(case hv=>rfl);intro w12 hg hx;have n0_:=am_ (blk_grown (g:=gb244) (o:=.cells #[.int .i8 a1_0,.int .i8 a1_1,.int .i8 a1_2,.int .i8 a1_3] 49 (0,0)) BK244.out hg (fun e_=>NB244_248.out (Option.some.inj e_)));have n1_:=am_ (hx);have n2_:=am_ (Below.grown HB.out hg (bZ_ HB.out) (fun k_ e_=>by cases e_;exact GE248.out));clear BK244;clear BK248;clear HB;have BK244:=n0_;have BK248:=n1_;have HB:=n2_;clear n0_ n1_ n2_;clear hg hx;have hnb13:=NB244_248.out;have hnc13:=NB248_244.out;have hcz14_0 : w12.cell? ⟨gb244,0,none⟩ = some (.int .i8 a1_0):=(kC_ BK244.out 0).trans rfl;have hcz14_1 : w12.cell? ⟨gb244,1,none⟩ = some (.int .i8 a1_1):=(kC_ BK244.out 1).trans rfl;have hcz14_2 : w12.cell? ⟨gb244,2,none⟩ = some (.int .i8 a1_2):=(kC_ BK244.out 2).trans rfl;have hcz14_3 : w12.cell? ⟨gb244,3,none⟩ = some (.int .i8 a1_3):=(kC_ BK244.out 3).trans rfl;have hfz14_0:=kF_ BK244.out 0;have hfz14_1:=kF_ BK244.out 1;have hfz14_2:=kF_ BK244.out 2;have hfz14_3:=kF_ BK244.out 3))
   go_loopg [7] k (fun kq v7 w'=>∃ (x7_1 : Int),v7 = .int .i8 x7_1 ∧ Aside0 (spec_l01Can.l0 kq x7_1 a1_0 a1_1 a1_2 a1_3 t246 = some r) ∧ Aside0 (kq≤k) ∧ Aside0 (w'.heap[gb244]? = some (.cells #[.int .i8 a1_0,.int .i8 a1_1,.int .i8 a1_2,.int .i8 a1_3] 49 (0,0))) ∧ Aside0 (w'.heap[gb248]? = some (.cells (arrC .i64 t246) 91 (0,0))) ∧ Aside0 (Below w.heap.size w w'))
   case atStart=>exact ⟨(a1_1),(by first|rfl|(simp;done)|(simp [*];done)),H',⟨Nat.le_refl _⟩,⟨by (with_reducible repeat (first|apply kN_|apply kD_|apply kA_));exact BK244.out⟩,⟨by (with_reducible repeat (first|apply kN_|apply kD_|apply kA_));exact BK248.out⟩,⟨by repeat (first|(with_reducible first|exact HB.out|apply bA_|apply bN_|apply bD_|refine bS_ ?_ GE244.out|refine bS_ ?_ GE248.out)|exact HB.out)⟩⟩
   case round =>
    clear H';(try clear c1 p2 c4 c6 c6b0 c6b1 c7 c13 hcz14_0 hcz14_1 hcz14_2 hcz14_3 hcz8_0 hcz8_1 hcz8_2 hcz8_3 hfz14_0 hfz14_1 hfz14_2 hfz14_3 hfz8_0 hfz8_1 hfz8_2 hfz8_3);obtain ⟨x7_1,rfl,HA,HK1,BK244,BK248,HB⟩:=hrel
    cases gk with
    | zero=>exact absurd HA.out (by simp [spec_l01Can.l0])
    | succ k1 =>
     have H:=HA.out;clear HA;simp only [spec_l01Can.l0] at H
     by_cases c15 : x7_1 < (IntKind.i8.wrap (a1_1 + a1_3))
     ·
      rw [if_pos c15] at H;have c15b0 : decide (x7_1 < (IntKind.i8.wrap (a1_1 + a1_3))) = true:=decide_eq_true c15;clear c15;have H':=am_ H;clear H;have hnb16:=NB244_248.out;have hnc16:=NB248_244.out;have hcz17_0 : wr.cell? ⟨gb244,0,none⟩ = some (.int .i8 a1_0):=(kC_ BK244.out 0).trans rfl;have hcz17_1 : wr.cell? ⟨gb244,1,none⟩ = some (.int .i8 a1_1):=(kC_ BK244.out 1).trans rfl;have hcz17_2 : wr.cell? ⟨gb244,2,none⟩ = some (.int .i8 a1_2):=(kC_ BK244.out 2).trans rfl;have hcz17_3 : wr.cell? ⟨gb244,3,none⟩ = some (.int .i8 a1_3):=(kC_ BK244.out 3).trans rfl;have hfz17_0:=kF_ BK244.out 0;have hfz17_1:=kF_ BK244.out 1;have hfz17_2:=kF_ BK244.out 2;have hfz17_3:=kF_ BK244.out 3
      go_wp2
      go_loopg [8] k1 (fun kq v8 w'=>∃ (x8_2 : Int),v8 = .int .i8 x8_2 ∧ Aside0 (spec_l01Can.l1 kq x7_1 x8_2 a1_0 a1_1 a1_2 a1_3 t246 = some r) ∧ Aside0 (kq≤k1) ∧ Aside0 (w'.heap[gb244]? = some (.cells #[.int .i8 a1_0,.int .i8 a1_1,.int .i8 a1_2,.int .i8 a1_3] 49 (0,0))) ∧ Aside0 (w'.heap[gb248]? = some (.cells (arrC .i64 t246) 91 (0,0))) ∧ Aside0 (Below w.heap.size w w'))
      case atStart=>exact ⟨(a1_0),(by first|rfl|(simp;done)|(simp [*];done)),H',⟨Nat.le_refl _⟩,⟨by (with_reducible repeat (first|apply kN_|apply kD_|apply kA_));exact BK244.out⟩,⟨by (with_reducible repeat (first|apply kN_|apply kD_|apply kA_));exact BK248.out⟩,⟨by repeat (first|(with_reducible first|exact HB.out|apply bA_|apply bN_|apply bD_|refine bS_ ?_ GE244.out|refine bS_ ?_ GE248.out)|exact HB.out)⟩⟩
      case round =>
       clear H';(try clear c1 p2 c4 c6 c6b0 c6b1 c7 c13 c15 c15b0 c16 hcz14_0 hcz14_1 hcz14_2 hcz14_3 hcz17_0 hcz17_1 hcz17_2 hcz17_3 hcz8_0 hcz8_1 hcz8_2 hcz8_3 hfz14_0 hfz14_1 hfz14_2 hfz14_3 hfz17_0 hfz17_1 hfz17_2 hfz17_3 hfz8_0 hfz8_1 hfz8_2 hfz8_3 p2);obtain ⟨x8_2,rfl,HA,HK2,BK244,BK248,HB⟩:=hrel
       cases gk with
       | zero=>exact absurd HA.out (by simp [spec_l01Can.l1])
       | succ k2 =>
        have H:=HA.out;clear HA;simp only [spec_l01Can.l1] at H
        by_cases c18 : x8_2 < (IntKind.i8.wrap (a1_0 + a1_2))
        ·
         rw [if_pos c18] at H;have c18b0 : decide (x8_2 < (IntKind.i8.wrap (a1_0 + a1_2))) = true:=decide_eq_true c18;clear c18
         by_cases c19 : 0≤x7_1
         ·
          rw [if_pos c19] at H;have c19b0 : decide (0≤x7_1) = true:=decide_eq_true c19;clear c19
          by_cases c20 : x7_1 < 12
          ·
           rw [if_pos c20] at H;have c20b0 : decide (x7_1 < 12) = true:=decide_eq_true c20;clear c20
           by_cases c22 : 0≤x8_2
           ·
            rw [if_pos c22] at H;have c22b0 : decide (0≤x8_2) = true:=decide_eq_true c22;clear c22
            by_cases c23 : x8_2 < 12
            ·
             rw [if_pos c23] at H;have c23b0 : decide (x8_2 < 12) = true:=decide_eq_true c23;clear c23
             by_cases c25 : x7_1 * 12 + x8_2 < (t246.length : Int)
             ·
              rw [if_pos c25] at H;have c25b0:=eq_true c25;have c25b1 : decide (x7_1 * 12 + x8_2 < (t246.length : Int)) = true:=decide_eq_true c25
              by_cases c26 : (rd t246 (x7_1 * 12 + x8_2)) = 0
              ·
               rw [if_pos c26] at H;have c26b0 : ((rd t246 (x7_1 * 12 + x8_2)) == 0) = true:=beq_iff_eq.mpr c26;have c26b1 : ((rd t246 (x7_1 * 12 + x8_2)) != 0) = false:=bne_eq_false_iff_eq.mpr c26;clear c26;have H':=am_ H;clear H;have hnb27:=NB244_248.out;have hnc27:=NB248_244.out;have hcz28_0 : wr.cell? ⟨gb244,0,none⟩ = some (.int .i8 a1_0):=(kC_ BK244.out 0).trans rfl;have hcz28_1 : wr.cell? ⟨gb244,1,none⟩ = some (.int .i8 a1_1):=(kC_ BK244.out 1).trans rfl;have hcz28_2 : wr.cell? ⟨gb244,2,none⟩ = some (.int .i8 a1_2):=(kC_ BK244.out 2).trans rfl;have hcz28_3 : wr.cell? ⟨gb244,3,none⟩ = some (.int .i8 a1_3):=(kC_ BK244.out 3).trans rfl;have hfz28_0:=kF_ BK244.out 0;have hfz28_1:=kF_ BK244.out 1;have hfz28_2:=kF_ BK244.out 2;have hfz28_3:=kF_ BK244.out 3;have p21 : 0≤(x7_1 : Int):=od_ (by first|(with_reducible assumption)|assumption);have q21 : (x7_1 : Int) < (12 : Int):=od_ (by first|(with_reducible assumption)|assumption);replace p21:=eq_true p21;replace q21:=eq_true q21;have p24 : 0≤(x8_2 : Int):=od_ (by first|(with_reducible assumption)|assumption);have q24 : (x8_2 : Int) < (12 : Int):=od_ (by first|(with_reducible assumption)|assumption);replace p24:=eq_true p24;replace q24:=eq_true q24;have haz29 : wr.cell? ⟨gb248,x7_1.toNat * 12 + x8_2.toNat,none⟩ = some (.int .i64 (rd t246 (x7_1 * 12 + x8_2))):=arr_cell BK248.out (x7_1 * 12 + x8_2) _ (by have h0_ : (0 : Int)≤x7_1:=od_ (by first|(with_reducible assumption)|assumption);have h1_ : (0 : Int)≤x8_2:=od_ (by first|(with_reducible assumption)|assumption);omega) (od_ (by first|(with_reducible assumption)|assumption))
               go_wp2
               go_roundg k2
               case measure=>have:=HK1.out;have:=HK2.out;omega
               case rel=>exact ⟨(IntKind.i8.wrap (x8_2 + 1)),(by first|rfl|(simp;done)|(simp [*];done)),H',⟨by have:=HK1.out;have:=HK2.out;omega⟩,⟨by (with_reducible repeat (first|apply kN_|apply kD_|apply kA_));exact BK244.out⟩,⟨by (with_reducible repeat (first|apply kN_|apply kD_|apply kA_));exact BK248.out⟩,⟨by repeat (first|(with_reducible first|exact HB.out|apply bA_|apply bN_|apply bD_|refine bS_ ?_ GE244.out|refine bS_ ?_ GE248.out)|exact HB.out)⟩⟩
              ·
               rw [if_neg c26] at H;have c26b0 : ((rd t246 (x7_1 * 12 + x8_2)) == 0) = false:=beq_eq_false_iff_ne.mpr c26;have c26b1 : ((rd t246 (x7_1 * 12 + x8_2)) != 0) = true:=bne_iff_ne.mpr c26;obtain rfl:=Option.some.inj H;have hnb30:=NB244_248.out;have hnc30:=NB248_244.out;have hcz31_0 : wr.cell? ⟨gb244,0,none⟩ = some (.int .i8 a1_0):=(kC_ BK244.out 0).trans rfl;have hcz31_1 : wr.cell? ⟨gb244,1,none⟩ = some (.int .i8 a1_1):=(kC_ BK244.out 1).trans rfl;have hcz31_2 : wr.cell? ⟨gb244,2,none⟩ = some (.int .i8 a1_2):=(kC_ BK244.out 2).trans rfl;have hcz31_3 : wr.cell? ⟨gb244,3,none⟩ = some (.int .i8 a1_3):=(kC_ BK244.out 3).trans rfl;have hfz31_0:=kF_ BK244.out 0;have hfz31_1:=kF_ BK244.out 1;have hfz31_2:=kF_ BK244.out 2;have hfz31_3:=kF_ BK244.out 3;have p21 : 0≤(x7_1 : Int):=od_ (by first|(with_reducible assumption)|assumption);have q21 : (x7_1 : Int) < (12 : Int):=od_ (by first|(with_reducible assumption)|assumption);replace p21:=eq_true p21;replace q21:=eq_true q21;have p24 : 0≤(x8_2 : Int):=od_ (by first|(with_reducible assumption)|assumption);have q24 : (x8_2 : Int) < (12 : Int):=od_ (by first|(with_reducible assumption)|assumption);replace p24:=eq_true p24;replace q24:=eq_true q24;have haz32 : wr.cell? ⟨gb248,x7_1.toNat * 12 + x8_2.toNat,none⟩ = some (.int .i64 (rd t246 (x7_1 * 12 + x8_2))):=arr_cell BK248.out (x7_1 * 12 + x8_2) _ (by have h0_ : (0 : Int)≤x7_1:=od_ (by first|(with_reducible assumption)|assumption);have h1_ : (0 : Int)≤x8_2:=od_ (by first|(with_reducible assumption)|assumption);omega) (od_ (by first|(with_reducible assumption)|assumption))
               go_wp2
               go_ret
               exact ⟨by first|rfl|(simp [errW_none,errW_some] <;> rfl)|(simp [*,errW_none,errW_some] <;> rfl),by repeat (first|(with_reducible first|exact HB.out|apply bA_|apply bN_|apply bD_|refine bS_ ?_ GE244.out|refine bS_ ?_ GE248.out)|exact HB.out)⟩
             · rw [if_neg c25] at H;exact absurd H (by simp)
            · rw [if_neg c23] at H;exact absurd H (by simp)
           · rw [if_neg c22] at H;exact absurd H (by simp)
          · rw [if_neg c20] at H;exact absurd H (by simp)
         · rw [if_neg c19] at H;exact absurd H (by simp)
        ·
         rw [if_neg c18] at H;have c18b0 : decide (x8_2 < (IntKind.i8.wrap (a1_0 + a1_2))) = false:=decide_eq_false c18;clear c18;have H':=am_ H;clear H;have hnb33:=NB244_248.out;have hnc33:=NB248_244.out;have hcz34_0 : wr.cell? ⟨gb244,0,none⟩ = some (.int .i8 a1_0):=(kC_ BK244.out 0).trans rfl;have hcz34_1 : wr.cell? ⟨gb244,1,none⟩ = some (.int .i8 a1_1):=(kC_ BK244.out 1).trans rfl;have hcz34_2 : wr.cell? ⟨gb244,2,none⟩ = some (.int .i8 a1_2):=(kC_ BK244.out 2).trans rfl;have hcz34_3 : wr.cell? ⟨gb244,3,none⟩ = some (.int .i8 a1_3):=(kC_ BK244.out 3).trans rfl;have hfz34_0:=kF_ BK244.out 0;have hfz34_1:=kF_ BK244.out 1;have hfz34_2:=kF_ BK244.out 2;have hfz34_3:=kF_ BK244.out 3
         go_wp2
         go_roundg k2
         case measure=>have:=HK1.out;have:=HK2.out;omega
         case rel=>exact ⟨(IntKind.i8.wrap (x7_1 + 1)),(by first|rfl|(simp;done)|(simp [*];done)),H',⟨by have:=HK1.out;have:=HK2.out;omega⟩,⟨by (with_reducible repeat (first|apply kN_|apply kD_|apply kA_));exact BK244.out⟩,⟨by (with_reducible repeat (first|apply kN_|apply kD_|apply kA_));exact BK248.out⟩,⟨by repeat (first|(with_reducible first|exact HB.out|apply bA_|apply bN_|apply bD_|refine bS_ ?_ GE244.out|refine bS_ ?_ GE248.out)|exact HB.out)⟩⟩
     ·
      rw [if_neg c15] at H;have c15b0 : decide (x7_1 < (IntKind.i8.wrap (a1_1 + a1_3))) = false:=decide_eq_false c15;clear c15;obtain rfl:=Option.some.inj H;have hnb35:=NB244_248.out;have hnc35:=NB248_244.out;have hcz36_0 : wr.cell? ⟨gb244,0,none⟩ = some (.int .i8 a1_0):=(kC_ BK244.out 0).trans rfl;have hcz36_1 : wr.cell? ⟨gb244,1,none⟩ = some (.int .i8 a1_1):=(kC_ BK244.out 1).trans rfl;have hcz36_2 : wr.cell? ⟨gb244,2,none⟩ = some (.int .i8 a1_2):=(kC_ BK244.out 2).trans rfl;have hcz36_3 : wr.cell? ⟨gb244,3,none⟩ = some (.int .i8 a1_3):=(kC_ BK244.out 3).trans rfl;have hfz36_0:=kF_ BK244.out 0;have hfz36_1:=kF_ BK244.out 1;have hfz36_2:=kF_ BK244.out 2;have hfz36_3:=kF_ BK244.out 3
      go_wp2
      go_ret
      exact ⟨by first|rfl|(simp [errW_none,errW_some] <;> rfl)|(simp [*,errW_none,errW_some] <;> rfl),by repeat (first|(with_reducible first|exact HB.out|apply bA_|apply bN_|apply bD_|refine bS_ ?_ GE244.out|refine bS_ ?_ GE248.out)|exact HB.out)⟩
  · rw [if_neg c6] at H;exact absurd H (by simp)
 ·
  replace c4:=Bool.eq_false_iff.mpr c4;subst c4;have H1 : (some false) = some r:=by rw [if_neg (show ¬ (false = true) by decide)] at H;exact H
  clear H;have H:=H1;clear H1;obtain rfl:=Option.some.inj H
  go_enter Try.func60,Try.ntmps60
  go_wp2_with (first|((with_reducible refine gate_dst (N:=3) rfl ?_);refine box_event ?hg (N:=3) ?hd (cs:=#[.int .i8 a1_0,.int .i8 a1_1,.int .i8 a1_2,.int .i8 a1_3]) (t:=49) ?hr ?_;(case hd=>rfl);(case hg=>rfl);(case hr=>first|(go_simp;done)|(go_simp;rfl));intro gb244 hg w37 hbox hb;have n0_:=am_ (bT_ HB.out hb);have n1_:=am_ (hbox);have n2_:=am_ ((by rw [hg];exact (bZ_ HB.out) : w.heap.size≤gb244));have n3_:=n2_;clear HB;have HB:=n0_;have BK244:=n1_;have GW244:=n2_;have GE244:=n3_;clear n0_ n1_ n2_ n3_;clear hb hbox hg;have hcz38_0 : w37.cell? ⟨gb244,0,none⟩ = some (.int .i8 a1_0):=(kC_ BK244.out 0).trans rfl;have hcz38_1 : w37.cell? ⟨gb244,1,none⟩ = some (.int .i8 a1_1):=(kC_ BK244.out 1).trans rfl;have hcz38_2 : w37.cell? ⟨gb244,2,none⟩ = some (.int .i8 a1_2):=(kC_ BK244.out 2).trans rfl;have hcz38_3 : w37.cell? ⟨gb244,3,none⟩ = some (.int .i8 a1_3):=(kC_ BK244.out 3).trans rfl;have hfz38_0:=kF_ BK244.out 0;have hfz38_1:=kF_ BK244.out 1;have hfz38_2:=kF_ BK244.out 2;have hfz38_3:=kF_ BK244.out 3)|((with_reducible refine gate_callee (f:=67) rfl ?_);refine goesL_ (some 11) rfl rfl Try.func67 (by kernel_rfl) rfl #[.pointer A0,.agg #[.int .i8 a1_0,.int .i8 a1_1,.int .i8 a1_2,.int .i8 a1_3]] rfl (by (try simp only [List.map_toArray,List.map_cons,List.map_nil]);first|done|rfl|(simp only [List.length_drop,List.length_take];rfl)) ?_;(with_reducible refine (spec_l01Lies.calls _ c0 l0 a1_0 a1_1 a1_2 a1_3 false _ ?side1 ?side2 A3.out).mono ?_);(case side1=>repeat (first|exact (cB_ HR0.out HB.out)|(with_reducible refine Kd.C_alloc ?_ _)|(with_reducible refine Kd.C_drewN ?_ _)|(with_reducible refine Kd.C_drew ?_)));(case side2=>exact HC0.out);rintro e w39 ⟨rfl,hb⟩;refine ⟨_,rfl,?_⟩;replace BK244:=am_ (kB_ BK244.out hb);replace HB:=am_ (bT_ HB.out hb);(try clear hb hb2 hk hi)))
  go_ret
  exact ⟨by first|rfl|(simp [errW_none,errW_some] <;> rfl)|(simp [*,errW_none,errW_some] <;> rfl),by repeat (first|(with_reducible first|exact HB.out|apply bA_|apply bN_|apply bD_|refine bS_ ?_ GE244.out)|exact HB.out)⟩
attribute [local go_sem] max2_int min2_int max_two min_two max_three min_three max_four min_four
set_option linter.unusedVariables false
set_option linter.unusedSimpArgs false
def spec_l01Told.f (k : Nat) (l0 : List (S29)) (a1 : Bool) : Option (Int) := (spec_l01Ok.f k l0).bind fun t427 => (if t427 = true then (if a1 = true then (some 0) else (some 2)) else (some 1))
theorem spec_l01Told.mono : ∀ a0 a1 k, LeO (spec_l01Told.f k a0 a1) (spec_l01Told.f (k + 1) a0 a1) := by
 intro a0 a1 k
 unfold spec_l01Told.f
 repeat' first
   | (with_reducible exact spec_l01Ok.mono _ _)
   | (with_reducible exact LeO.refl _)
   | (with_reducible exact LeO.none _)
   | (with_reducible refine LeO.ite ?_ ?_)
   | (with_reducible refine LeO.bind ?_ (fun _=>?_))
   | exact spec_l01Ok.mono _ _
   | exact LeO.none _
   | refine LeO.ite ?_ ?_
   | refine LeO.bind ?_ (fun _=>?_)
set_option maxHeartbeats 8000000 in
set_option maxRecDepth 100000 in
theorem spec_l01Told.calls (k : Nat) (A0 : Option Addr) (c0 : Nat) (l0 : List (S29)) (a1 : Bool) (r : Int) (w : World) (hr0 : Kd.C k29 w A0 l0.length l0) (hc0 : l0.length ≤ c0) (h : spec_l01Told.f k l0 a1 = some r) :
  Calls Try.prog 44 #[.pointer A0,.bool a1] w fun e w'=>e = .returned (.int .i64 r) ∧ Below w.heap.size w w':=by
 have HR0:=am_ hr0;have HC0:=am_ hc0;clear hr0 hc0;have HB:=am_ (Below.refl w.heap.size w);have H : ((spec_l01Ok.f k l0).bind fun t427=>(if t427 = true then (if a1 = true then (some 0) else (some 2)) else (some 1))) = some r:=h;clear h;replace H:=Option.bind_eq_some_iff.mp H;obtain ⟨t427,A30,H⟩:=H;replace H : (if t427 = true then (if a1 = true then (some 0) else (some 2)) else (some 1)) = some r:=H;have A3:=am_ A30;clear A30
 by_cases c4 : t427 = true
 ·
  subst c4;have H1 : (if a1 = true then (some 0) else (some 2)) = some r:=by rw [if_pos rfl] at H;exact H
  clear H;have H:=H1;clear H1
  by_cases c5 : a1 = true
  ·
   subst c5;have H1 : (some 0) = some r:=by rw [if_pos rfl] at H;exact H
   clear H;have H:=H1;clear H1;obtain rfl:=Option.some.inj H
   go_enter Try.func44,Try.ntmps44
   go_wp2_with (first|((with_reducible refine gate_callee (f:=53) rfl ?_);refine goesL_ (some 6) rfl rfl Try.func53 (by kernel_rfl) rfl #[.pointer A0] rfl (by (try simp only [List.map_toArray,List.map_cons,List.map_nil]);first|done|rfl|(simp only [List.length_drop,List.length_take];rfl)) ?_;(with_reducible refine (spec_l01Ok.calls k _ c0 l0 true _ ?side1 ?side2 A3.out).mono ?_);(case side1=>repeat (first|exact HR0.out|(with_reducible refine Kd.C_alloc ?_ _)|(with_reducible refine Kd.C_drewN ?_ _)|(with_reducible refine Kd.C_drew ?_)));(case side2=>exact HC0.out);rintro e w6 ⟨rfl,hb⟩;refine ⟨_,rfl,?_⟩;replace HB:=am_ (bT_ HB.out hb);(try clear hb hb2 hk hi)))
   go_ret
   exact ⟨by first|rfl|(simp [errW_none,errW_some] <;> rfl)|(simp [*,errW_none,errW_some] <;> rfl),by repeat (first|(with_reducible first|exact HB.out|apply bA_|apply bN_|apply bD_)|exact HB.out)⟩
  ·
   replace c5:=Bool.eq_false_iff.mpr c5;subst c5;have H1 : (some 2) = some r:=by rw [if_neg (show ¬ (false = true) by decide)] at H;exact H
   clear H;have H:=H1;clear H1;obtain rfl:=Option.some.inj H
   go_enter Try.func44,Try.ntmps44
   go_wp2_with (first|((with_reducible refine gate_callee (f:=53) rfl ?_);refine goesL_ (some 6) rfl rfl Try.func53 (by kernel_rfl) rfl #[.pointer A0] rfl (by (try simp only [List.map_toArray,List.map_cons,List.map_nil]);first|done|rfl|(simp only [List.length_drop,List.length_take];rfl)) ?_;(with_reducible refine (spec_l01Ok.calls k _ c0 l0 true _ ?side1 ?side2 A3.out).mono ?_);(case side1=>repeat (first|exact HR0.out|(with_reducible refine Kd.C_alloc ?_ _)|(with_reducible refine Kd.C_drewN ?_ _)|(with_reducible refine Kd.C_drew ?_)));(case side2=>exact HC0.out);rintro e w7 ⟨rfl,hb⟩;refine ⟨_,rfl,?_⟩;replace HB:=am_ (bT_ HB.out hb);(try clear hb hb2 hk hi)))
   go_ret
   exact ⟨by first|rfl|(simp [errW_none,errW_some] <;> rfl)|(simp [*,errW_none,errW_some] <;> rfl),by repeat (first|(with_reducible first|exact HB.out|apply bA_|apply bN_|apply bD_)|exact HB.out)⟩
 ·
  replace c4:=Bool.eq_false_iff.mpr c4;subst c4;have H1 : (some 1) = some r:=by rw [if_neg (show ¬ (false = true) by decide)] at H;exact H
  clear H;have H:=H1;clear H1;obtain rfl:=Option.some.inj H
  go_enter Try.func44,Try.ntmps44
  go_wp2_with (first|((with_reducible refine gate_callee (f:=53) rfl ?_);refine goesL_ (some 6) rfl rfl Try.func53 (by kernel_rfl) rfl #[.pointer A0] rfl (by (try simp only [List.map_toArray,List.map_cons,List.map_nil]);first|done|rfl|(simp only [List.length_drop,List.length_take];rfl)) ?_;(with_reducible refine (spec_l01Ok.calls k _ c0 l0 false _ ?side1 ?side2 A3.out).mono ?_);(case side1=>repeat (first|exact HR0.out|(with_reducible refine Kd.C_alloc ?_ _)|(with_reducible refine Kd.C_drewN ?_ _)|(with_reducible refine Kd.C_drew ?_)));(case side2=>exact HC0.out);rintro e w8 ⟨rfl,hb⟩;refine ⟨_,rfl,?_⟩;replace HB:=am_ (bT_ HB.out hb);(try clear hb hb2 hk hi)))
  go_ret
  exact ⟨by first|rfl|(simp [errW_none,errW_some] <;> rfl)|(simp [*,errW_none,errW_some] <;> rfl),by repeat (first|(with_reducible first|exact HB.out|apply bA_|apply bN_|apply bD_)|exact HB.out)⟩
def impl_unless.f (a0 : Bool) (a1 : Int) : Option (Int) := if a0 = true then (some 0) else (some a1)
set_option maxHeartbeats 8000000 in
set_option maxRecDepth 100000 in
theorem impl_unless.calls (a0 : Bool) (a1 : Int) (r : Int) (w : World) (h : impl_unless.f a0 a1 = some r) :
  Calls Try.prog 82 #[.bool a0,.int .i64 a1] w fun e w'=>e = .returned (.int .i64 r) ∧ Drawn0 w w':=by
 have H : (if a0 = true then (some 0) else (some a1)) = some r:=h;clear h
 by_cases c3 : a0 = true
 ·
  subst c3;have H1 : (some 0) = some r:=by rw [if_pos rfl] at H;exact H
  clear H;have H:=H1;clear H1;obtain rfl:=Option.some.inj H
  go_enter Try.func82,Try.ntmps82
  go_wp2
  go_ret
  exact ⟨by first|rfl|(simp;done)|(simp [*];done),by repeat (first|exact Drawn0.refl _|apply Drawn0.step)⟩
 ·
  replace c3:=Bool.eq_false_iff.mpr c3;subst c3;have H1 : (some a1) = some r:=by rw [if_neg (show ¬ (false = true) by decide)] at H;exact H
  clear H;have H:=H1;clear H1;obtain rfl:=Option.some.inj H
  go_enter Try.func82,Try.ntmps82
  go_wp2
  go_ret
  exact ⟨by first|rfl|(simp;done)|(simp [*];done),by repeat (first|exact Drawn0.refl _|apply Drawn0.step)⟩
attribute [local go_sem] max2_int min2_int max_two min_two max_three min_three max_four min_four
set_option linter.unusedVariables false
set_option linter.unusedSimpArgs false
mutual
def spec_l01All.l0 : Nat → List (S29) → List (S96) → Int → Option ((List (S96)))
 | 0,_,_,_=>none
 | k + 1,x0,x3,x4=>if 0 < (x0.length : Int) then (if x4 < ((rd_T29 x0 0).f1) then (spec_l01All.l1 k x0 x3 x4 0) else (some x3)) else (none)
def spec_l01All.l1 : Nat → List (S29) → List (S96) → Int → Int → Option ((List (S96)))
 | 0,_,_,_,_=>none
 | k + 1,x0,x3,x4,x5=>if 0 < (x0.length : Int) then (if x5 < ((rd_T29 x0 0).f0) then (if x3.length < 70368744177664 then (spec_l01All.l1 k x0 (x3 ++ [(⟨x5,x4⟩ : S96)]) x4 (IntKind.i8.wrap (x5 + 1))) else (none)) else (spec_l01All.l0 k x0 x3 (IntKind.i8.wrap (x4 + 1)))) else (none)
end
def spec_l01All.f (k : Nat) (l0 : List (S29)) : Option ((List (S96))) := spec_l01All.l0 k l0 (([] : List (S96))) 0
theorem spec_l01All.mono_l : ∀ k, (∀ y0 y1 y2, LeO (spec_l01All.l0 k y0 y1 y2) (spec_l01All.l0 (k + 1) y0 y1 y2)) ∧ (∀ y0 y1 y2 y3, LeO (spec_l01All.l1 k y0 y1 y2 y3) (spec_l01All.l1 (k + 1) y0 y1 y2 y3))
 | 0=>⟨fun _ _ _ r h=>by simp [spec_l01All.l0] at h,fun _ _ _ _ r h=>by simp [spec_l01All.l1] at h⟩
 | k + 1=>by
  obtain ⟨ih0,ih1⟩:=spec_l01All.mono_l k;refine ⟨?_,?_⟩
  ·
   intro y0 y1 y2
   unfold spec_l01All.l0
   repeat' first
   | (with_reducible exact ih0 _ _ _)
   | (with_reducible exact ih1 _ _ _ _)
   | (with_reducible exact LeO.refl _)
   | (with_reducible exact LeO.none _)
   | (with_reducible refine LeO.ite ?_ ?_)
   | (with_reducible refine LeO.bind ?_ (fun _=>?_))
   | exact ih0 _ _ _
   | exact ih1 _ _ _ _
   | exact LeO.none _
   | refine LeO.ite ?_ ?_
   | refine LeO.bind ?_ (fun _=>?_)
  ·
   intro y0 y1 y2 y3
   unfold spec_l01All.l1
   repeat' first
   | (with_reducible exact ih0 _ _ _)
   | (with_reducible exact ih1 _ _ _ _)
   | (with_reducible exact LeO.refl _)
   | (with_reducible exact LeO.none _)
   | (with_reducible refine LeO.ite ?_ ?_)
   | (with_reducible refine LeO.bind ?_ (fun _=>?_))
   | exact ih0 _ _ _
   | exact ih1 _ _ _ _
   | exact LeO.none _
   | refine LeO.ite ?_ ?_
   | refine LeO.bind ?_ (fun _=>?_)
theorem spec_l01All.mono : ∀ a0 k, LeO (spec_l01All.f k a0) (spec_l01All.f (k + 1) a0) := by
 intro a0 k;obtain ⟨ih0,ih1⟩:=spec_l01All.mono_l k
 unfold spec_l01All.f
 repeat' first
   | (with_reducible exact ih0 _ _ _)
   | (with_reducible exact ih1 _ _ _ _)
   | (with_reducible exact LeO.refl _)
   | (with_reducible exact LeO.none _)
   | (with_reducible refine LeO.ite ?_ ?_)
   | (with_reducible refine LeO.bind ?_ (fun _=>?_))
   | exact ih0 _ _ _
   | exact ih1 _ _ _ _
   | exact LeO.none _
   | refine LeO.ite ?_ ?_
   | refine LeO.bind ?_ (fun _=>?_)
set_option maxHeartbeats 8000000 in
set_option maxRecDepth 100000 in
theorem spec_l01All.calls (k : Nat) (A0 : Option Addr) (c0 : Nat) (l0 : List (S29)) (r : List (S96)) (w : World) (hr0 : Kd.C k29 w A0 l0.length l0) (hc0 : l0.length ≤ c0) (h : spec_l01All.f k l0 = some r) :
  Calls Try.prog 81 #[.pointer A0] w fun e w'=>∃ v0_ : Value,e = .returned (v0_) ∧ Kd.R k96 96 w' w.heap.size (fun _=>True) v0_ r ∧ Below w.heap.size w w':=by
 have hu96:=Try.underlying96;have HR0:=am_ hr0;have HC0:=am_ hc0;clear hr0 hc0;have HB:=am_ (Below.refl w.heap.size w);have H : (spec_l01All.l0 k l0 (([] : List (S96))) 0) = some r:=h;clear h;obtain ⟨y792,hy792⟩ : ∃ y_ : List (S96),y_ = (([] : List (S96))):=⟨_,rfl⟩
 replace H : (spec_l01All.l0 k l0 y792 0) = some r:=by first|(rw [hy792];with_reducible exact H)|(have H2_:=(Option.bind_some _ _).symm.trans H;rw [hy792];with_reducible exact H2_)|(have H2_:=(Option.bind_some _ _).symm.trans H;with_reducible exact H2_)|with_reducible exact H|(rw [hy792];exact H)|exact H
 have Ny792:=am_ hy792;clear hy792;have H':=am_ H;clear H
 go_enter Try.func81,Try.ntmps81
 go_wp2_with (first|((with_reducible refine gate_dst (N:=6) rfl ?_);refine Kd.R_lit k96 _ 96 ?hg (N:=6) ?hd (xs:=([] : List (S96))) (inner:=[]) (ok:=fun _=>True) (okp:=fun _=>True) ?hr ?hp (fun _ hk=>hk) trivial (Below.refl _ _) (Nat.le_refl _) (by simp) ?_;(case hd=>rfl);(case hg=>rfl);(case hr=>first|(go_simp;done)|(go_simp;rfl));(case hp=>exact (Reps.none _ _));intro v793 w2 ho3 hb hg_ hnew_;clear hg_ hnew_;(first|rw [← Ny792.out] at ho3|(simp only [Int.reduceToNat] at ho3;rw [← Ny792.out] at ho3));have HO794:=am_ (Kd.R_lower ho3 (bZ_ HB.out));replace HB:=am_ (bT_ HB.out hb);clear hb ho3))
 go_loopg [3,4] k (fun kq v3 v4 w'=>∃ (x3_1 : List (S96)) (x4_1 : Int),v4 = .int .i8 x4_1 ∧ Aside0 (spec_l01All.l0 kq l0 x3_1 x4_1 = some r) ∧ Aside0 (kq≤k) ∧ Aside0 (Kd.R k96 96 w' w.heap.size (fun _=>True) v3 x3_1) ∧ Aside0 (Below w.heap.size w w'))
 case atStart=>exact ⟨(y792),(0),(by first|rfl|(simp;done)|(simp [*];done)),H',⟨Nat.le_refl _⟩,⟨by (with_reducible repeat (first|apply Kd.R_alloc|apply Kd.R_drewN|apply Kd.R_drew));exact HO794.out⟩,⟨by repeat (first|(with_reducible first|exact HB.out|apply bA_|apply bN_|apply bD_)|exact HB.out)⟩⟩
 case round =>
  clear H';(try clear p2);obtain ⟨x3_1,x4_1,rfl,HA,HK1,HO_3,HB⟩:=hrel
  cases gk with
  | zero=>exact absurd HA.out (by simp [spec_l01All.l0])
  | succ k1 =>
   have H:=HA.out;clear HA;simp only [spec_l01All.l0] at H
   by_cases c4 : 0 < (l0.length : Int)
   ·
    rw [if_pos c4] at H;have c4b0 : decide (0 < (l0.length : Int)) = true:=decide_eq_true c4;have c4b1 : decide (0 < l0.length) = true:=decide_eq_true (by omega);clear c4
    by_cases c5 : x4_1 < ((rd_T29 l0 0).f1)
    ·
     rw [if_pos c5] at H;have c5b0 : decide (x4_1 < ((rd_T29 l0 0).f1)) = true:=decide_eq_true c5;clear c5;have H':=am_ H;clear H;have p795 : 0≤(0 : Int):=(by omega)
     have q795 : 0 < (l0.length : Int):=od_ (by first|(with_reducible assumption)|assumption);obtain ⟨ad795,A795_2,c795_2,e795,hx795_0,hx795_1,hx795_2,hl795_2,hi795_2⟩:=at_T29 HR0.out 0 p795 q795
     cases e795
     have qi795 : (0 < l0.length) = True:=eq_true (by omega);(try rw [show ((0 : Int)).toNat = 0 from rfl] at hx795_0);(try rw [show 0 * 3 = 0 from rfl] at hx795_0);(try rw [Addr.add_zero'] at hx795_0);(try rw [show ((0 : Int)).toNat = 0 from rfl] at hx795_1);(try rw [show 0 * 3 = 0 from rfl] at hx795_1);(try rw [Addr.add_zero'] at hx795_1);(try rw [show ((0 : Int)).toNat = 0 from rfl] at hx795_2);(try rw [show 0 * 3 = 0 from rfl] at hx795_2);(try rw [Addr.add_zero'] at hx795_2);replace hx795_0:=(HB.out.cell (bl_ w _ hx795_0)).trans hx795_0;replace hx795_1:=(HB.out.cell (bl_ w _ hx795_1)).trans hx795_1;replace hx795_2:=(HB.out.cell (bl_ w _ hx795_2)).trans hx795_2;have HR795_2:=am_ hi795_2;have HC795_2:=am_ hl795_2;clear hi795_2 hl795_2;replace p795:=eq_true p795;replace q795:=eq_true q795;have p796 : 0≤(0 : Int):=(by omega)
     have q796 : 0 < (l0.length : Int):=od_ (by first|(with_reducible assumption)|assumption);obtain ⟨ad796,A796_2,c796_2,e796,hx796_0,hx796_1,hx796_2,hl796_2,hi796_2⟩:=at_T29 HR0.out 0 p796 q796;obtain rfl : ad795 = ad796:=(by injection e796)
     have qi796 : (0 < l0.length) = True:=eq_true (by omega);(try rw [show ((0 : Int)).toNat = 0 from rfl] at hx796_0);(try rw [show 0 * 3 = 0 from rfl] at hx796_0);(try rw [Addr.add_zero'] at hx796_0);(try rw [show ((0 : Int)).toNat = 0 from rfl] at hx796_1);(try rw [show 0 * 3 = 0 from rfl] at hx796_1);(try rw [Addr.add_zero'] at hx796_1);(try rw [show ((0 : Int)).toNat = 0 from rfl] at hx796_2);(try rw [show 0 * 3 = 0 from rfl] at hx796_2);(try rw [Addr.add_zero'] at hx796_2);replace hx796_0:=(HB.out.cell (bl_ w _ hx796_0)).trans hx796_0;replace hx796_1:=(HB.out.cell (bl_ w _ hx796_1)).trans hx796_1;replace hx796_2:=(HB.out.cell (bl_ w _ hx796_2)).trans hx796_2;have HR796_2:=am_ hi796_2;have HC796_2:=am_ hl796_2;clear hi796_2 hl796_2;replace p796:=eq_true p796;replace q796:=eq_true q796;have ea_:=Option.some.inj (hx795_2.symm.trans hx796_2)
     injection ea_ with ea_ en_ ec_
     subst ea_;subst ec_;clear en_
     go_wp2
     go_loopg [3,5] k1 (fun kq v3 v5 w'=>∃ (x3_2 : List (S96)) (x5_2 : Int),v5 = .int .i8 x5_2 ∧ Aside0 (spec_l01All.l1 kq l0 x3_2 x4_1 x5_2 = some r) ∧ Aside0 (kq≤k1) ∧ Aside0 (Kd.R k96 96 w' w.heap.size (fun _=>True) v3 x3_2) ∧ Aside0 (Below w.heap.size w w'))
     case atStart=>exact ⟨(x3_1),(0),(by first|rfl|(simp;done)|(simp [*];done)),H',⟨Nat.le_refl _⟩,⟨by (with_reducible repeat (first|apply Kd.R_alloc|apply Kd.R_drewN|apply Kd.R_drew));exact HO_3.out⟩,⟨by repeat (first|(with_reducible first|exact HB.out|apply bA_|apply bN_|apply bD_)|exact HB.out)⟩⟩
     case round =>
      clear H';(try clear p2 c4 c4b0 c4b1 c5 c5b0 hx795_0 hx795_1 hx795_2 hx796_0 hx796_1 hx796_2 p2 p795 p796 q795 q796);obtain ⟨x3_2,x5_2,rfl,HA,HK2,HO_3,HB⟩:=hrel
      cases gk with
      | zero=>exact absurd HA.out (by simp [spec_l01All.l1])
      | succ k2 =>
       have H:=HA.out;clear HA;simp only [spec_l01All.l1] at H
       by_cases c6 : 0 < (l0.length : Int)
       ·
        rw [if_pos c6] at H;have c6b0 : decide (0 < (l0.length : Int)) = true:=decide_eq_true c6;have c6b1 : decide (0 < l0.length) = true:=decide_eq_true (by omega);clear c6
        by_cases c7 : x5_2 < ((rd_T29 l0 0).f0)
        ·
         rw [if_pos c7] at H;have c7b0 : decide (x5_2 < ((rd_T29 l0 0).f0)) = true:=decide_eq_true c7;clear c7
         by_cases c8 : x3_2.length < 70368744177664
         ·
          rw [if_pos c8] at H;have LMc8:=am_ c8;clear c8;obtain ⟨y799,hy799⟩ : ∃ y_ : List (S96),y_ = (x3_2 ++ [(⟨x5_2,x4_1⟩ : S96)]):=⟨_,rfl⟩
          replace H : (spec_l01All.l1 k2 l0 y799 x4_1 (IntKind.i8.wrap (x5_2 + 1))) = some r:=by first|(rw [hy799];with_reducible exact H)|(have H2_:=(Option.bind_some _ _).symm.trans H;rw [hy799];with_reducible exact H2_)|(have H2_:=(Option.bind_some _ _).symm.trans H;with_reducible exact H2_)|with_reducible exact H|(rw [hy799];exact H)|exact H
          have Ny799:=am_ hy799;clear hy799;have H':=am_ H;clear H;have p797 : 0≤(0 : Int):=(by omega)
          have q797 : 0 < (l0.length : Int):=od_ (by first|(with_reducible assumption)|assumption);obtain ⟨ad797,A797_2,c797_2,e797,hx797_0,hx797_1,hx797_2,hl797_2,hi797_2⟩:=at_T29 HR0.out 0 p797 q797;obtain rfl : ad795 = ad797:=(by injection e797)
          have qi797 : (0 < l0.length) = True:=eq_true (by omega);(try rw [show ((0 : Int)).toNat = 0 from rfl] at hx797_0);(try rw [show 0 * 3 = 0 from rfl] at hx797_0);(try rw [Addr.add_zero'] at hx797_0);(try rw [show ((0 : Int)).toNat = 0 from rfl] at hx797_1);(try rw [show 0 * 3 = 0 from rfl] at hx797_1);(try rw [Addr.add_zero'] at hx797_1);(try rw [show ((0 : Int)).toNat = 0 from rfl] at hx797_2);(try rw [show 0 * 3 = 0 from rfl] at hx797_2);(try rw [Addr.add_zero'] at hx797_2);replace hx797_0:=(HB.out.cell (bl_ w _ hx797_0)).trans hx797_0;replace hx797_1:=(HB.out.cell (bl_ w _ hx797_1)).trans hx797_1;replace hx797_2:=(HB.out.cell (bl_ w _ hx797_2)).trans hx797_2;have HR797_2:=am_ hi797_2;have HC797_2:=am_ hl797_2;clear hi797_2 hl797_2;replace p797:=eq_true p797;replace q797:=eq_true q797;have p798 : 0≤(0 : Int):=(by omega)
          have q798 : 0 < (l0.length : Int):=od_ (by first|(with_reducible assumption)|assumption);obtain ⟨ad798,A798_2,c798_2,e798,hx798_0,hx798_1,hx798_2,hl798_2,hi798_2⟩:=at_T29 HR0.out 0 p798 q798;obtain rfl : ad795 = ad798:=(by injection e798)
          have qi798 : (0 < l0.length) = True:=eq_true (by omega);(try rw [show ((0 : Int)).toNat = 0 from rfl] at hx798_0);(try rw [show 0 * 3 = 0 from rfl] at hx798_0);(try rw [Addr.add_zero'] at hx798_0);(try rw [show ((0 : Int)).toNat = 0 from rfl] at hx798_1);(try rw [show 0 * 3 = 0 from rfl] at hx798_1);(try rw [Addr.add_zero'] at hx798_1);(try rw [show ((0 : Int)).toNat = 0 from rfl] at hx798_2);(try rw [show 0 * 3 = 0 from rfl] at hx798_2);(try rw [Addr.add_zero'] at hx798_2);replace hx798_0:=(HB.out.cell (bl_ w _ hx798_0)).trans hx798_0;replace hx798_1:=(HB.out.cell (bl_ w _ hx798_1)).trans hx798_1;replace hx798_2:=(HB.out.cell (bl_ w _ hx798_2)).trans hx798_2;have HR798_2:=am_ hi798_2;have HC798_2:=am_ hl798_2;clear hi798_2 hl798_2;replace p798:=eq_true p798;replace q798:=eq_true q798;have ea_:=Option.some.inj (hx797_2.symm.trans hx798_2)
          injection ea_ with ea_ en_ ec_
          subst ea_;subst ec_;clear en_
          go_wp2_with (first|((with_reducible refine gate_builtin (b:=.append) (xs:=#[.tmp 23,.tmp 27]) rfl ?_);at_builtin;refine Kd.R_append k96 (w0:=w) w.heap.size rfl (.tmp 23) (.tmp 27) 56 96 (.agg #[(.int .i8 0),(.int .i8 0)]) 2 rfl Try.underlying56 info96 rfl (by decide) (by omega) u3 x3_2 (⟨x5_2,x4_1⟩ : S96) [.int .i8 x5_2,.int .i8 x4_1] (fun _=>True) (fun _=>False) rfl rfl ?aP (fun _ hk=>hk.elim) ?aF ?aO ?aB ?aS ?aL ?_;(case aP=>exact k96_mkM _ _ _ (⟨x5_2,x4_1⟩ : S96));(case aB=>exact HB.out);(case aF=>exact (fun _ _=>trivial));(case aO=>exact HO_3.out);(case aS=>exact (bZ_ HB.out));(case aL=>have:=LMc8.out;omega);intro v800 w9 ho hb hg hat;rw [← Ny799.out] at ho;have n0_:=am_ (hb);have n1_:=am_ (ho);clear HB;clear HO_3;have HB:=n0_;have HO801:=n1_;clear n0_ n1_;clear ho hb hg hat))
          go_roundg k2
          case measure=>have:=HK1.out;have:=HK2.out;omega
          case rel=>exact ⟨(y799),(IntKind.i8.wrap (x5_2 + 1)),(by first|rfl|(simp;done)|(simp [*];done)),H',⟨by have:=HK1.out;have:=HK2.out;omega⟩,⟨by (with_reducible repeat (first|apply Kd.R_alloc|apply Kd.R_drewN|apply Kd.R_drew));exact HO801.out⟩,⟨by repeat (first|(with_reducible first|exact HB.out|apply bA_|apply bN_|apply bD_)|exact HB.out)⟩⟩
         · rw [if_neg c8] at H;exact absurd H (by simp)
        ·
         rw [if_neg c7] at H;have c7b0 : decide (x5_2 < ((rd_T29 l0 0).f0)) = false:=decide_eq_false c7;clear c7;have H':=am_ H;clear H;have p797 : 0≤(0 : Int):=(by omega)
         have q797 : 0 < (l0.length : Int):=od_ (by first|(with_reducible assumption)|assumption);obtain ⟨ad797,A797_2,c797_2,e797,hx797_0,hx797_1,hx797_2,hl797_2,hi797_2⟩:=at_T29 HR0.out 0 p797 q797;obtain rfl : ad795 = ad797:=(by injection e797)
         have qi797 : (0 < l0.length) = True:=eq_true (by omega);(try rw [show ((0 : Int)).toNat = 0 from rfl] at hx797_0);(try rw [show 0 * 3 = 0 from rfl] at hx797_0);(try rw [Addr.add_zero'] at hx797_0);(try rw [show ((0 : Int)).toNat = 0 from rfl] at hx797_1);(try rw [show 0 * 3 = 0 from rfl] at hx797_1);(try rw [Addr.add_zero'] at hx797_1);(try rw [show ((0 : Int)).toNat = 0 from rfl] at hx797_2);(try rw [show 0 * 3 = 0 from rfl] at hx797_2);(try rw [Addr.add_zero'] at hx797_2);replace hx797_0:=(HB.out.cell (bl_ w _ hx797_0)).trans hx797_0;replace hx797_1:=(HB.out.cell (bl_ w _ hx797_1)).trans hx797_1;replace hx797_2:=(HB.out.cell (bl_ w _ hx797_2)).trans hx797_2;have HR797_2:=am_ hi797_2;have HC797_2:=am_ hl797_2;clear hi797_2 hl797_2;replace p797:=eq_true p797;replace q797:=eq_true q797;have p798 : 0≤(0 : Int):=(by omega)
         have q798 : 0 < (l0.length : Int):=od_ (by first|(with_reducible assumption)|assumption);obtain ⟨ad798,A798_2,c798_2,e798,hx798_0,hx798_1,hx798_2,hl798_2,hi798_2⟩:=at_T29 HR0.out 0 p798 q798;obtain rfl : ad795 = ad798:=(by injection e798)
         have qi798 : (0 < l0.length) = True:=eq_true (by omega);(try rw [show ((0 : Int)).toNat = 0 from rfl] at hx798_0);(try rw [show 0 * 3 = 0 from rfl] at hx798_0);(try rw [Addr.add_zero'] at hx798_0);(try rw [show ((0 : Int)).toNat = 0 from rfl] at hx798_1);(try rw [show 0 * 3 = 0 from rfl] at hx798_1);(try rw [Addr.add_zero'] at hx798_1);(try rw [show ((0 : Int)).toNat = 0 from rfl] at hx798_2);(try rw [show 0 * 3 = 0 from rfl] at hx798_2);(try rw [Addr.add_zero'] at hx798_2);replace hx798_0:=(HB.out.cell (bl_ w _ hx798_0)).trans hx798_0;replace hx798_1:=(HB.out.cell (bl_ w _ hx798_1)).trans hx798_1;replace hx798_2:=(HB.out.cell (bl_ w _ hx798_2)).trans hx798_2;have HR798_2:=am_ hi798_2;have HC798_2:=am_ hl798_2;clear hi798_2 hl798_2;replace p798:=eq_true p798;replace q798:=eq_true q798;have ea_:=Option.some.inj (hx797_2.symm.trans hx798_2)
         injection ea_ with ea_ en_ ec_
         subst ea_;subst ec_;clear en_
         go_wp2
         go_roundg k2
         case measure=>have:=HK1.out;have:=HK2.out;omega
         case rel=>exact ⟨(x3_2),(IntKind.i8.wrap (x4_1 + 1)),(by first|rfl|(simp;done)|(simp [*];done)),H',⟨by have:=HK1.out;have:=HK2.out;omega⟩,⟨by (with_reducible repeat (first|apply Kd.R_alloc|apply Kd.R_drewN|apply Kd.R_drew));exact HO_3.out⟩,⟨by repeat (first|(with_reducible first|exact HB.out|apply bA_|apply bN_|apply bD_)|exact HB.out)⟩⟩
       · rw [if_neg c6] at H;exact absurd H (by simp)
    ·
     rw [if_neg c5] at H;have c5b0 : decide (x4_1 < ((rd_T29 l0 0).f1)) = false:=decide_eq_false c5;clear c5;obtain rfl:=Option.some.inj H;have p795 : 0≤(0 : Int):=(by omega)
     have q795 : 0 < (l0.length : Int):=od_ (by first|(with_reducible assumption)|assumption);obtain ⟨ad795,A795_2,c795_2,e795,hx795_0,hx795_1,hx795_2,hl795_2,hi795_2⟩:=at_T29 HR0.out 0 p795 q795
     cases e795
     have qi795 : (0 < l0.length) = True:=eq_true (by omega);(try rw [show ((0 : Int)).toNat = 0 from rfl] at hx795_0);(try rw [show 0 * 3 = 0 from rfl] at hx795_0);(try rw [Addr.add_zero'] at hx795_0);(try rw [show ((0 : Int)).toNat = 0 from rfl] at hx795_1);(try rw [show 0 * 3 = 0 from rfl] at hx795_1);(try rw [Addr.add_zero'] at hx795_1);(try rw [show ((0 : Int)).toNat = 0 from rfl] at hx795_2);(try rw [show 0 * 3 = 0 from rfl] at hx795_2);(try rw [Addr.add_zero'] at hx795_2);replace hx795_0:=(HB.out.cell (bl_ w _ hx795_0)).trans hx795_0;replace hx795_1:=(HB.out.cell (bl_ w _ hx795_1)).trans hx795_1;replace hx795_2:=(HB.out.cell (bl_ w _ hx795_2)).trans hx795_2;have HR795_2:=am_ hi795_2;have HC795_2:=am_ hl795_2;clear hi795_2 hl795_2;replace p795:=eq_true p795;replace q795:=eq_true q795;have p796 : 0≤(0 : Int):=(by omega)
     have q796 : 0 < (l0.length : Int):=od_ (by first|(with_reducible assumption)|assumption);obtain ⟨ad796,A796_2,c796_2,e796,hx796_0,hx796_1,hx796_2,hl796_2,hi796_2⟩:=at_T29 HR0.out 0 p796 q796;obtain rfl : ad795 = ad796:=(by injection e796)
     have qi796 : (0 < l0.length) = True:=eq_true (by omega);(try rw [show ((0 : Int)).toNat = 0 from rfl] at hx796_0);(try rw [show 0 * 3 = 0 from rfl] at hx796_0);(try rw [Addr.add_zero'] at hx796_0);(try rw [show ((0 : Int)).toNat = 0 from rfl] at hx796_1);(try rw [show 0 * 3 = 0 from rfl] at hx796_1);(try rw [Addr.add_zero'] at hx796_1);(try rw [show ((0 : Int)).toNat = 0 from rfl] at hx796_2);(try rw [show 0 * 3 = 0 from rfl] at hx796_2);(try rw [Addr.add_zero'] at hx796_2);replace hx796_0:=(HB.out.cell (bl_ w _ hx796_0)).trans hx796_0;replace hx796_1:=(HB.out.cell (bl_ w _ hx796_1)).trans hx796_1;replace hx796_2:=(HB.out.cell (bl_ w _ hx796_2)).trans hx796_2;have HR796_2:=am_ hi796_2;have HC796_2:=am_ hl796_2;clear hi796_2 hl796_2;replace p796:=eq_true p796;replace q796:=eq_true q796;have ea_:=Option.some.inj (hx795_2.symm.trans hx796_2)
     injection ea_ with ea_ en_ ec_
     subst ea_;subst ec_;clear en_
     go_wp2
     go_ret
     exact ⟨_,by first|rfl|(simp [errW_none,errW_some] <;> rfl)|(simp [*,errW_none,errW_some] <;> rfl),by (with_reducible repeat (first|apply Kd.R_alloc|apply Kd.R_drewN|apply Kd.R_drew));exact HO_3.out,by repeat (first|(with_reducible first|exact HB.out|apply bA_|apply bN_|apply bD_)|exact HB.out)⟩
   · rw [if_neg c4] at H;exact absurd H (by simp)
attribute [local go_sem] max2_int min2_int max_two min_two max_three min_three max_four min_four
set_option linter.unusedVariables false
set_option linter.unusedSimpArgs false
def spec_l01Place.l0 : Nat → List (S29) → Int → Int → List (S96) → Int → Option (Int × Int × Int × Int × Bool)
 | 0,_,_,_,_,_=>none
 | k + 1,x0,x1,x2,x8,x9=>if x9 < (x8.length : Int) then (if 0≤x9 then ((spec_l01Can.f k x0 ((rd_T96 x8 x9).f0) ((rd_T96 x8 x9).f1) (IntKind.i8.wrap (x1)) (IntKind.i8.wrap (x2))).bind fun t809=>(if t809 = true then (some ((rd_T96 x8 x9).f0,(rd_T96 x8 x9).f1,IntKind.i8.wrap (x1),IntKind.i8.wrap (x2),true)) else (spec_l01Place.l0 k x0 x1 x2 x8 (wrap64 (x9 + 1))))) else (none)) else (some (0,0,0,0,false))
def spec_l01Place.f (k : Nat) (l0 : List (S29)) (a1 : Int) (a2 : Int) : Option (Int × Int × Int × Int × Bool) := (spec_l01All.f k l0).bind fun t803 => (spec_l01Place.l0 k l0 a1 a2 t803 0)
theorem spec_l01Place.mono_l : ∀ k, (∀ y0 y1 y2 y3 y4, LeO (spec_l01Place.l0 k y0 y1 y2 y3 y4) (spec_l01Place.l0 (k + 1) y0 y1 y2 y3 y4))
 | 0=>fun _ _ _ _ _ r h=>by simp [spec_l01Place.l0] at h
 | k + 1=>by
  have ih0:=spec_l01Place.mono_l k
  ·
   intro y0 y1 y2 y3 y4
   unfold spec_l01Place.l0
   repeat' first
   | (with_reducible exact ih0 _ _ _ _ _)
   | (with_reducible exact spec_l01All.mono _ _)
   | (with_reducible exact spec_l01Can.mono _ _ _ _ _ _)
   | (with_reducible exact LeO.refl _)
   | (with_reducible exact LeO.none _)
   | (with_reducible refine LeO.ite ?_ ?_)
   | (with_reducible refine LeO.bind ?_ (fun _=>?_))
   | exact ih0 _ _ _ _ _
   | exact spec_l01All.mono _ _
   | exact spec_l01Can.mono _ _ _ _ _ _
   | exact LeO.none _
   | refine LeO.ite ?_ ?_
   | refine LeO.bind ?_ (fun _=>?_)
theorem spec_l01Place.mono : ∀ a0 a1 a2 k, LeO (spec_l01Place.f k a0 a1 a2) (spec_l01Place.f (k + 1) a0 a1 a2) := by
 intro a0 a1 a2 k;have ih0:=spec_l01Place.mono_l k
 unfold spec_l01Place.f
 repeat' first
   | (with_reducible exact ih0 _ _ _ _ _)
   | (with_reducible exact spec_l01All.mono _ _)
   | (with_reducible exact spec_l01Can.mono _ _ _ _ _ _)
   | (with_reducible exact LeO.refl _)
   | (with_reducible exact LeO.none _)
   | (with_reducible refine LeO.ite ?_ ?_)
   | (with_reducible refine LeO.bind ?_ (fun _=>?_))
   | exact ih0 _ _ _ _ _
   | exact spec_l01All.mono _ _
   | exact spec_l01Can.mono _ _ _ _ _ _
   | exact LeO.none _
   | refine LeO.ite ?_ ?_
   | refine LeO.bind ?_ (fun _=>?_)
def spec_l01Place.T5 : Bool × List (List Nat × List Nat) := (true, [([], []), ([], []), ([0, 1], [0, 1]), ([2], [2]), ([3], [3]), ([], []), ([], []), ([5, 6], [5, 6]), ([7], [7]), ([8], [8]), ([], []), ([10], [10]), ([], []), ([12], [12]), ([4, 9, 11, 13], [4, 9, 11, 13]), ([], []), ([15, 14, 0, 1, 2, 3, 4, 5, 6, 7, 8, 9, 10, 11, 12, 13, 14, 15], [14, 15])])
def spec_l01Place.B5 : List Nat := [0, 0, 3, 7, 15, 0, 0, 96, 224, 480, 0, 1024, 0, 4096, 16383, 0, 65535]
theorem spec_l01Place.tab5 : rtab .any (opsOf Try.f46 5) = spec_l01Place.T5 := by kernel_rfl
theorem spec_l01Place.bits5 : waitsOk spec_l01Place.T5.2 spec_l01Place.B5 = true := by kernel_rfl
set_option maxHeartbeats 8000000 in
set_option maxRecDepth 100000 in
theorem spec_l01Place.calls (k : Nat) (A0 : Option Addr) (c0 : Nat) (l0 : List (S29)) (a1 : Int) (a2 : Int) (r1 : Int) (r2 : Int) (r3 : Int) (r4 : Int) (r5 : Bool) (w : World) (hr0 : Kd.C k29 w A0 l0.length l0) (hc0 : l0.length ≤ c0) (h : spec_l01Place.f k l0 a1 a2 = some (r1, r2, r3, r4, r5)) :
  Calls Try.prog 46 #[.pointer A0,.int .i64 a1,.int .i64 a2] w fun e w'=>e = .returned (.tuple #[.agg #[.int .i8 r1,.int .i8 r2,.int .i8 r3,.int .i8 r4],.bool r5]) ∧ Below w.heap.size w w':=by
 have hu49:=Try.underlying49;have HR0:=am_ hr0;have HC0:=am_ hc0;clear hr0 hc0;have HB:=am_ (Below.refl w.heap.size w);have H : ((spec_l01All.f k l0).bind fun t803=>(spec_l01Place.l0 k l0 a1 a2 t803 0)) = some (r1,r2,r3,r4,r5):=h;clear h;replace H:=Option.bind_eq_some_iff.mp H;obtain ⟨t803,A40,H⟩:=H;replace H : (spec_l01Place.l0 k l0 a1 a2 t803 0) = some (r1,r2,r3,r4,r5):=H;have A4:=am_ A40;clear A40;have H':=am_ H;clear H
 go_enter Try.func46,Try.ntmps46
 go_wp2_with (first|((with_reducible refine gate_dst (N:=6) rfl ?_);refine box_event ?hg (N:=6) ?hd (cs:=#[.int .i8 0,.int .i8 0,.int .i8 0,.int .i8 0]) (t:=49) ?hr ?_;(case hd=>rfl);(case hg=>rfl);(case hr=>first|(go_simp;done)|(go_simp;rfl));intro gb802 hg w5 hbox hb;have n0_:=am_ (bT_ HB.out hb);have n1_:=am_ (hbox);have n2_:=am_ ((by rw [hg];exact (bZ_ HB.out) : w.heap.size≤gb802));have n3_:=n2_;clear HB;have HB:=n0_;have BK802:=n1_;have GW802:=n2_;have GE802:=n3_;clear n0_ n1_ n2_ n3_;clear hb hbox hg)|((with_reducible refine gate_callee (f:=81) rfl ?_);refine goesL_ (some 12) rfl rfl Try.func81 (by kernel_rfl) rfl #[.pointer A0] rfl (by (try simp only [List.map_toArray,List.map_cons,List.map_nil]);first|done|rfl|(simp only [List.length_drop,List.length_take];rfl)) ?_;(with_reducible refine (spec_l01All.calls k _ c0 l0 t803 _ ?side1 ?side2 A4.out).mono ?_);(case side1=>repeat (first|exact (cB_ HR0.out HB.out)|(with_reducible refine Kd.C_alloc ?_ _)|(with_reducible refine Kd.C_drewN ?_ _)|(with_reducible refine Kd.C_drew ?_)));(case side2=>exact HC0.out);rintro e w6 ⟨v804,rfl,ho0,hb⟩;refine ⟨_,rfl,?_⟩;have HO805:=am_ (Kd.R_lower ho0 (bZ_ HB.out));replace BK802:=am_ (kB_ BK802.out hb);replace HB:=am_ (bT_ HB.out hb);(try clear hb hb2 hk hi ho0)))
 go_loopg [9] k (fun kq v9 w'=>∃ (x9_1 : Int) (x803000_1 : Int) (x803001_1 : Int) (x803002_1 : Int) (x803003_1 : Int),v9 = .int .i64 x9_1 ∧ Aside0 (spec_l01Place.l0 kq l0 a1 a2 t803 x9_1 = some (r1,r2,r3,r4,r5)) ∧ Aside0 (kq≤k) ∧ Aside0 (Kd.R k96 96 w' w.heap.size (fun _=>True) v804 t803) ∧ Aside0 (w'.heap[gb802]? = some (.cells #[.int .i8 x803000_1,.int .i8 x803001_1,.int .i8 x803002_1,.int .i8 x803003_1] 49 (0,0))) ∧ Aside0 (Below w.heap.size w w'))
 case atStart=>exact ⟨(0),(0),(0),(0),(0),(by first|rfl|(simp;done)|(simp [*];done)),H',⟨Nat.le_refl _⟩,⟨by (with_reducible repeat (first|apply Kd.R_alloc|apply Kd.R_drewN|apply Kd.R_drew));exact HO805.out⟩,⟨by (with_reducible repeat (first|apply kN_|apply kD_|apply kA_));exact BK802.out⟩,⟨by repeat (first|(with_reducible first|exact HB.out|apply bA_|apply bN_|apply bD_|refine bS_ ?_ GE802.out)|exact HB.out)⟩⟩
 case round =>
  clear H';(try clear p2);(try clear c4);obtain ⟨x9_1,x803000_1,x803001_1,x803002_1,x803003_1,rfl,HA,HK1,HO_8,BK802,HB⟩:=hrel
  cases gk with
  | zero=>exact absurd HA.out (by simp [spec_l01Place.l0])
  | succ k1 =>
   have H:=HA.out;clear HA;simp only [spec_l01Place.l0] at H
   by_cases c7 : x9_1 < (t803.length : Int)
   ·
    rw [if_pos c7] at H;have c7b0 : decide (x9_1 < (t803.length : Int)) = true:=decide_eq_true c7;clear c7
    by_cases c8 : 0≤x9_1
    ·
     rw [if_pos c8] at H;have c8b0 : decide (0≤x9_1) = true:=decide_eq_true c8;clear c8;replace H:=Option.bind_eq_some_iff.mp H;obtain ⟨t809,A90,H⟩:=H;replace H : (if t809 = true then (some ((rd_T96 t803 x9_1).f0,(rd_T96 t803 x9_1).f1,IntKind.i8.wrap (a1),IntKind.i8.wrap (a2),true)) else (spec_l01Place.l0 k1 l0 a1 a2 t803 (wrap64 (x9_1 + 1)))) = some (r1,r2,r3,r4,r5):=H;have A9:=am_ A90;clear A90
     by_cases c10 : t809 = true
     ·
      subst c10;have H1 : (some ((rd_T96 t803 x9_1).f0,(rd_T96 t803 x9_1).f1,IntKind.i8.wrap (a1),IntKind.i8.wrap (a2),true)) = some (r1,r2,r3,r4,r5):=by rw [if_pos rfl] at H;exact H
      clear H;have H:=H1;clear H1;simp only [Option.some.injEq,Prod.mk.injEq] at H;obtain ⟨rfl,rfl,rfl,rfl,rfl⟩:=H;obtain ⟨Ao11,co11,eo11⟩:=Kd.R_slice HO_8.out;subst eo11
      try go_wp2
      replace HO_8:=am_ (Kd.R_drew HO_8.out);replace BK802:=am_ (kD_ BK802.out);replace HB:=am_ (bD_ HB.out);have p806 : 0≤(x9_1 : Int):=od_ (by first|(with_reducible assumption)|assumption);have q806 : x9_1 < (t803.length : Int):=od_ (by first|(with_reducible assumption)|assumption);obtain ⟨ad806,e806,hx806_0,hx806_1⟩:=at_T96 (Kd.R_reads' HO_8.out).2.2 x9_1 p806 q806
      cases e806
      replace p806:=eq_true p806;replace q806:=eq_true q806;have p807 : 0≤(x9_1 : Int):=od_ (by first|(with_reducible assumption)|assumption);have q807 : x9_1 < (t803.length : Int):=od_ (by first|(with_reducible assumption)|assumption);obtain ⟨ad807,e807,hx807_0,hx807_1⟩:=at_T96 (Kd.R_reads' HO_8.out).2.2 x9_1 p807 q807;obtain rfl : ad806 = ad807:=(by injection e807)
      replace p807:=eq_true p807;replace q807:=eq_true q807;refine start_ (n:=17) (S:=fun w'=>w'.cell? (ad806.add ((x9_1).toNat * 2)) = some (.int .i8 ((rd_T96 t803 x9_1).f0)) ∧ w'.cell? ⟨(ad806.add ((x9_1).toNat * 2)).block,(ad806.add ((x9_1).toNat * 2)).off + 1,none⟩ = some (.int .i8 ((rd_T96 t803 x9_1).f1)) ∧ w'.cell? (ad806.add ((x9_1).toNat * 2)) = some (.int .i8 ((rd_T96 t803 x9_1).f0)) ∧ w'.cell? ⟨(ad806.add ((x9_1).toNat * 2)).block,(ad806.add ((x9_1).toNat * 2)).off + 1,none⟩ = some (.int .i8 ((rd_T96 t803 x9_1).f1))) (ds:=[]) (mB_ 17 0) (by kernel_rfl) rfl rfl ⟨hx806_0,hx806_1,hx807_0,hx807_1⟩ (fun hHeld=>?_);refine with_tabW spec_l01Place.tab5 spec_l01Place.bits5 (fun HT_ HW_=>?_);generalize wr.drew = w12 at HO_8 BK802 HB hx806_0 hx806_1 hx807_0 hx807_1 hHeld ⊢;refine pure_ (i:=0) (N:=some 19) (v:=?_) (a':=?_) (mB_ 17 1) rfl rfl (any_of HT_.out (by kernel_rfl)) (fun _ _ _ h=>h) (Or.inl ⟨by rfl,?_⟩) ?_ ?_;rotate_left;(· intro w';go_simp;with_reducible rfl);rotate_left;(· simp only [Act.put,z1_,z2_,z3_,i64_w,i32_w];rfl)
      refine pure_ (i:=1) (N:=some 20) (v:=?_) (a':=?_) (mB_ 17 3) rfl rfl (any_of HT_.out (by kernel_rfl)) (fun _ _ _ h=>h) (Or.inl ⟨by rfl,?_⟩) ?_ ?_;rotate_left;(· intro w';go_simp;with_reducible rfl);rotate_left;(· simp only [Act.put,z1_,z2_,z3_,i64_w,i32_w];rfl)
      refine pure_ (i:=2) (N:=some 21) (v:=?_) (a':=?_) (mB_ 17 7) rfl rfl (any_of HT_.out (by kernel_rfl)) (fun _ _ _ h=>h) (Or.inl ⟨by rfl,?_⟩) ?_ ?_;rotate_left;(· intro w';go_simp;with_reducible rfl);rotate_left;(· simp only [Act.put,z1_,z2_,z3_,i64_w,i32_w];rfl)
      refine pure_ (i:=3) (N:=some 22) (v:=?_) (a':=?_) (mB_ 17 15) rfl rfl (any_of HT_.out (by kernel_rfl)) (fun _ _ _ h=>h) (Or.inl ⟨by rfl,?_⟩) ?_ ?_;rotate_left;(· intro w';go_simp;with_reducible rfl);rotate_left;(· simp only [Act.put,z1_,z2_,z3_,i64_w,i32_w];rfl)
      refine pure_ (i:=5) (N:=some 24) (v:=?_) (a':=?_) (mB_ 17 47) rfl rfl (any_of HT_.out (by kernel_rfl)) (fun _ _ _ h=>h) (Or.inl ⟨by rfl,?_⟩) ?_ ?_;rotate_left;(· intro w';go_simp;with_reducible rfl);rotate_left;(· simp only [Act.put,z1_,z2_,z3_,i64_w,i32_w];rfl)
      refine pure_ (i:=6) (N:=some 25) (v:=?_) (a':=?_) (mB_ 17 111) rfl rfl (any_of HT_.out (by kernel_rfl)) (fun _ _ _ h=>h) (Or.inl ⟨by rfl,?_⟩) ?_ ?_;rotate_left;(· intro w';go_simp;with_reducible rfl);rotate_left;(· simp only [Act.put,z1_,z2_,z3_,i64_w,i32_w];rfl)
      refine pure_ (i:=7) (N:=some 26) (v:=?_) (a':=?_) (mB_ 17 239) rfl rfl (any_of HT_.out (by kernel_rfl)) (fun _ _ _ h=>h) (Or.inl ⟨by rfl,?_⟩) ?_ ?_;rotate_left;(· intro w';go_simp;with_reducible rfl);rotate_left;(· simp only [Act.put,z1_,z2_,z3_,i64_w,i32_w];rfl)
      refine pure_ (i:=8) (N:=some 27) (v:=?_) (a':=?_) (mB_ 17 495) rfl rfl (any_of HT_.out (by kernel_rfl)) (fun _ _ _ h=>h) (Or.inl ⟨by rfl,?_⟩) ?_ ?_;rotate_left;(· intro w';go_simp;with_reducible rfl);rotate_left;(· simp only [Act.put,z1_,z2_,z3_,i64_w,i32_w];rfl)
      refine pure_ (i:=10) (N:=some 29) (v:=?_) (a':=?_) (mB_ 17 1519) rfl rfl (any_of HT_.out (by kernel_rfl)) (fun _ _ _ h=>h) (Or.inl ⟨by rfl,?_⟩) ?_ ?_;rotate_left;(· intro w';go_simp;with_reducible rfl);rotate_left;(· simp only [Act.put,z1_,z2_,z3_,i64_w,i32_w];rfl)
      refine pure_ (i:=11) (N:=some 30) (v:=?_) (a':=?_) (mB_ 17 3567) rfl rfl (any_of HT_.out (by kernel_rfl)) (fun _ _ _ h=>h) (Or.inl ⟨by rfl,?_⟩) ?_ ?_;rotate_left;(· intro w';go_simp;with_reducible rfl);rotate_left;(· simp only [Act.put,z1_,z2_,z3_,i64_w,i32_w];rfl)
      refine pure_ (i:=12) (N:=some 31) (v:=?_) (a':=?_) (mB_ 17 7663) rfl rfl (any_of HT_.out (by kernel_rfl)) (fun _ _ _ h=>h) (Or.inl ⟨by rfl,?_⟩) ?_ ?_;rotate_left;(· intro w';go_simp;with_reducible rfl);rotate_left;(· simp only [Act.put,z1_,z2_,z3_,i64_w,i32_w];rfl)
      refine pure_ (i:=13) (N:=some 32) (v:=?_) (a':=?_) (mB_ 17 15855) rfl rfl (any_of HT_.out (by kernel_rfl)) (fun _ _ _ h=>h) (Or.inl ⟨by rfl,?_⟩) ?_ ?_;rotate_left;(· intro w';go_simp;with_reducible rfl);rotate_left;(· simp only [Act.put,z1_,z2_,z3_,i64_w,i32_w];rfl)
      refine take_ (i:=4) (N:=some 23) (v:=?_) (a':=?_) (mB_ 17 15871) rfl rfl (take_ofW HT_.out HW_.out (by kernel_rfl)) (fun _ _ _ h=>h) (Or.inl ⟨by rfl,?_⟩) hHeld ?_ ?_;rotate_left;(· rintro w' ⟨s0,s1,s2,s3⟩;go_simp;with_reducible rfl);rotate_left;(· simp only [Act.put,z1_,z2_,z3_,i64_w,i32_w];rfl)
      refine take_ (i:=9) (N:=some 28) (v:=?_) (a':=?_) (mB_ 17 16383) rfl rfl (take_ofW HT_.out HW_.out (by kernel_rfl)) (fun _ _ _ h=>h) (Or.inl ⟨by rfl,?_⟩) hHeld ?_ ?_;rotate_left;(· rintro w' ⟨s0,s1,s2,s3⟩;go_simp;with_reducible rfl);rotate_left;(· simp only [Act.put,z1_,z2_,z3_,i64_w,i32_w];rfl)
      refine pure_ (i:=14) (N:=some 33) (v:=?_) (a':=?_) (mB_ 17 32767) rfl rfl (any_of HT_.out (by kernel_rfl)) (fun _ _ _ h=>h) (Or.inl ⟨by rfl,?_⟩) ?_ ?_;rotate_left;(· intro w';go_simp;with_reducible rfl);rotate_left;(· simp only [Act.put,z1_,z2_,z3_,i64_w,i32_w];rfl)
      refine one_ (i:=15) (N:=some 10) (mB_ 17 65535) rfl rfl (one_of HT_.out (by kernel_rfl)) (by decide) (fun K hK=>?_);refine box_step ?hg (N:=10) ?hd (cs:=#[.int .i8 0,.int .i8 0,.int .i8 0,.int .i8 0]) (t:=49) ?hr ?_;(case hd=>rfl);(case hg=>rfl);(case hr=>first|(go_simp;done)|(go_simp;rfl));intro gb808 hg w13 hbox hb;have HS0_:=(hb.cell (bl_ _ _ (hHeld.1))).trans (hHeld.1);have HS1_:=(hb.cell (bl_ _ _ (hHeld.2.1))).trans (hHeld.2.1);have HS2_:=(hb.cell (bl_ _ _ (hHeld.2.2.1))).trans (hHeld.2.2.1);have HS3_:=(hb.cell (bl_ _ _ (hHeld.2.2.2))).trans (hHeld.2.2.2);have n0_:=am_ (Kd.R_below HO_8.out hb);have n1_:=am_ (kB_ BK802.out hb);have n2_:=am_ (bT_ HB.out hb);have n3_:=am_ (hbox);have n4_:=am_ ((by rw [hg];exact (bZ_ HB.out) : w.heap.size≤gb808));have n5_:=am_ ((by rw [hg];exact (bZ_ HB.out) : w.heap.size≤gb808));have n6_:=am_ ((by rw [hg];exact nL_ (kL_ BK802.out) : gb802 ≠ gb808));have n7_:=am_ ((by rw [hg];exact nG_ (kL_ BK802.out) : gb808 ≠ gb802));clear HO_8;clear BK802;clear HB;have HO_8:=n0_;have BK802:=n1_;have HB:=n2_;have BK808:=n3_;have GW808:=n4_;have GE808:=n5_;have NB802_808:=n6_;have NB808_802:=n7_;clear n0_ n1_ n2_ n3_ n4_ n5_ n6_ n7_;clear hb hbox hg;refine hK.out _ _ ⟨HS0_,HS1_,HS2_,HS3_⟩ (fun hHeld=>?_);clear hK K;refine norm_ (a':=?_) ?_ ?_;rotate_left
      · show Act.put _ (some 10) _ = _;simp only [Act.put,z1_,z2_,z3_,i64_w,i32_w];rfl
      refine one_ (i:=16) (N:=none) (mB_ 17 131071) rfl rfl (one_of HT_.out (by kernel_rfl)) (by decide) (fun K hK=>?_);have hs14 : w13.cell? ⟨gb808,0,none⟩ = some (.int .i8 0):=(kC_ BK808.out 0).trans rfl;have hfs14:=kF_ BK808.out 0;have hns14_0:=NB802_808.out;have hms14_0:=NB808_802.out;have hs15 : w13.cell? ⟨gb808,1,none⟩ = some (.int .i8 0):=(kC_ BK808.out 1).trans rfl;have hfs15:=kF_ BK808.out 1;have hns15_0:=NB802_808.out;have hms15_0:=NB808_802.out;have hs16 : w13.cell? ⟨gb808,2,none⟩ = some (.int .i8 0):=(kC_ BK808.out 2).trans rfl;have hfs16:=kF_ BK808.out 2;have hns16_0:=NB802_808.out;have hms16_0:=NB808_802.out;have hs17 : w13.cell? ⟨gb808,3,none⟩ = some (.int .i8 0):=(kC_ BK808.out 3).trans rfl;have hfs17:=kF_ BK808.out 3;have hns17_0:=NB802_808.out;have hms17_0:=NB808_802.out;refine skip_ (w1:=?_) (by rfl) rfl ?_ ?_;rotate_left
      · go_simp;rfl
      refine hK.out _ _ ⟨((cell_far (p:=⟨gb808,_,none⟩) (by first|exact Kd.own_blk (Kd.R_ne HO_8.out BK808.out (by decide))|((first|rw [add_block]|(show (Addr.add _ _).block ≠ _;rw [add_block])|dsimp only);exact Kd.own_blk (Kd.R_ne HO_8.out BK808.out (by decide)))) _).trans (((cell_far (p:=⟨gb808,_,none⟩) (by first|exact Kd.own_blk (Kd.R_ne HO_8.out BK808.out (by decide))|((first|rw [add_block]|(show (Addr.add _ _).block ≠ _;rw [add_block])|dsimp only);exact Kd.own_blk (Kd.R_ne HO_8.out BK808.out (by decide)))) _).trans (((cell_far (p:=⟨gb808,_,none⟩) (by first|exact Kd.own_blk (Kd.R_ne HO_8.out BK808.out (by decide))|((first|rw [add_block]|(show (Addr.add _ _).block ≠ _;rw [add_block])|dsimp only);exact Kd.own_blk (Kd.R_ne HO_8.out BK808.out (by decide)))) _).trans (((cell_far (p:=⟨gb808,_,none⟩) (by first|exact Kd.own_blk (Kd.R_ne HO_8.out BK808.out (by decide))|((first|rw [add_block]|(show (Addr.add _ _).block ≠ _;rw [add_block])|dsimp only);exact Kd.own_blk (Kd.R_ne HO_8.out BK808.out (by decide)))) _).trans (hHeld.1)))))))),((cell_far (p:=⟨gb808,_,none⟩) (by first|exact Kd.own_blk (Kd.R_ne HO_8.out BK808.out (by decide))|((first|rw [add_block]|(show (Addr.add _ _).block ≠ _;rw [add_block])|dsimp only);exact Kd.own_blk (Kd.R_ne HO_8.out BK808.out (by decide)))) _).trans (((cell_far (p:=⟨gb808,_,none⟩) (by first|exact Kd.own_blk (Kd.R_ne HO_8.out BK808.out (by decide))|((first|rw [add_block]|(show (Addr.add _ _).block ≠ _;rw [add_block])|dsimp only);exact Kd.own_blk (Kd.R_ne HO_8.out BK808.out (by decide)))) _).trans (((cell_far (p:=⟨gb808,_,none⟩) (by first|exact Kd.own_blk (Kd.R_ne HO_8.out BK808.out (by decide))|((first|rw [add_block]|(show (Addr.add _ _).block ≠ _;rw [add_block])|dsimp only);exact Kd.own_blk (Kd.R_ne HO_8.out BK808.out (by decide)))) _).trans (((cell_far (p:=⟨gb808,_,none⟩) (by first|exact Kd.own_blk (Kd.R_ne HO_8.out BK808.out (by decide))|((first|rw [add_block]|(show (Addr.add _ _).block ≠ _;rw [add_block])|dsimp only);exact Kd.own_blk (Kd.R_ne HO_8.out BK808.out (by decide)))) _).trans (hHeld.2.1)))))))),((cell_far (p:=⟨gb808,_,none⟩) (by first|exact Kd.own_blk (Kd.R_ne HO_8.out BK808.out (by decide))|((first|rw [add_block]|(show (Addr.add _ _).block ≠ _;rw [add_block])|dsimp only);exact Kd.own_blk (Kd.R_ne HO_8.out BK808.out (by decide)))) _).trans (((cell_far (p:=⟨gb808,_,none⟩) (by first|exact Kd.own_blk (Kd.R_ne HO_8.out BK808.out (by decide))|((first|rw [add_block]|(show (Addr.add _ _).block ≠ _;rw [add_block])|dsimp only);exact Kd.own_blk (Kd.R_ne HO_8.out BK808.out (by decide)))) _).trans (((cell_far (p:=⟨gb808,_,none⟩) (by first|exact Kd.own_blk (Kd.R_ne HO_8.out BK808.out (by decide))|((first|rw [add_block]|(show (Addr.add _ _).block ≠ _;rw [add_block])|dsimp only);exact Kd.own_blk (Kd.R_ne HO_8.out BK808.out (by decide)))) _).trans (((cell_far (p:=⟨gb808,_,none⟩) (by first|exact Kd.own_blk (Kd.R_ne HO_8.out BK808.out (by decide))|((first|rw [add_block]|(show (Addr.add _ _).block ≠ _;rw [add_block])|dsimp only);exact Kd.own_blk (Kd.R_ne HO_8.out BK808.out (by decide)))) _).trans (hHeld.2.2.1)))))))),((cell_far (p:=⟨gb808,_,none⟩) (by first|exact Kd.own_blk (Kd.R_ne HO_8.out BK808.out (by decide))|((first|rw [add_block]|(show (Addr.add _ _).block ≠ _;rw [add_block])|dsimp only);exact Kd.own_blk (Kd.R_ne HO_8.out BK808.out (by decide)))) _).trans (((cell_far (p:=⟨gb808,_,none⟩) (by first|exact Kd.own_blk (Kd.R_ne HO_8.out BK808.out (by decide))|((first|rw [add_block]|(show (Addr.add _ _).block ≠ _;rw [add_block])|dsimp only);exact Kd.own_blk (Kd.R_ne HO_8.out BK808.out (by decide)))) _).trans (((cell_far (p:=⟨gb808,_,none⟩) (by first|exact Kd.own_blk (Kd.R_ne HO_8.out BK808.out (by decide))|((first|rw [add_block]|(show (Addr.add _ _).block ≠ _;rw [add_block])|dsimp only);exact Kd.own_blk (Kd.R_ne HO_8.out BK808.out (by decide)))) _).trans (((cell_far (p:=⟨gb808,_,none⟩) (by first|exact Kd.own_blk (Kd.R_ne HO_8.out BK808.out (by decide))|((first|rw [add_block]|(show (Addr.add _ _).block ≠ _;rw [add_block])|dsimp only);exact Kd.own_blk (Kd.R_ne HO_8.out BK808.out (by decide)))) _).trans (hHeld.2.2.2))))))))⟩ (fun hHeld=>?_)
      clear hK K;refine done_ (done_of HT_.out (by kernel_rfl)) ?_;have hnb18:=NB808_802.out;have hnc18:=NB802_808.out;have hcz19_0 : w13.cell? ⟨gb808,0,none⟩ = some (.int .i8 0):=(kC_ BK808.out 0).trans rfl;have hcz19_1 : w13.cell? ⟨gb808,1,none⟩ = some (.int .i8 0):=(kC_ BK808.out 1).trans rfl;have hcz19_2 : w13.cell? ⟨gb808,2,none⟩ = some (.int .i8 0):=(kC_ BK808.out 2).trans rfl;have hcz19_3 : w13.cell? ⟨gb808,3,none⟩ = some (.int .i8 0):=(kC_ BK808.out 3).trans rfl;have hfz19_0:=kF_ BK808.out 0;have hfz19_1:=kF_ BK808.out 1;have hfz19_2:=kF_ BK808.out 2;have hfz19_3:=kF_ BK808.out 3
      try go_wp2_with (first|((with_reducible refine gate_callee (f:=60) rfl ?_);refine goesL_ (some 36) rfl rfl Try.func60 (by kernel_rfl) rfl #[.pointer A0,.agg #[.int .i8 ((rd_T96 t803 x9_1).f0),.int .i8 ((rd_T96 t803 x9_1).f1),.int .i8 (IntKind.i8.wrap (a1)),.int .i8 (IntKind.i8.wrap (a2))]] rfl (by (try simp only [List.map_toArray,List.map_cons,List.map_nil]);first|done|rfl|(simp only [List.length_drop,List.length_take];rfl)) ?_;(with_reducible refine (spec_l01Can.calls k1 _ c0 l0 ((rd_T96 t803 x9_1).f0) ((rd_T96 t803 x9_1).f1) (IntKind.i8.wrap (a1)) (IntKind.i8.wrap (a2)) true _ ?side1 ?side2 A9.out).mono ?_);(case side1=>exact cB_ HR0.out (by repeat (first|(with_reducible first|exact HB.out|apply bA_|apply bN_|apply bD_|refine bS_ ?_ GE802.out|refine bS_ ?_ GE808.out)|exact HB.out)));(case side2=>exact HC0.out);rintro e w20 ⟨rfl,hb⟩;refine ⟨_,rfl,?_⟩;have n0_:=am_ (Kd.R_below ((rM_ (Kd.R_far (p:=⟨gb808,3,none⟩) (Kd.R_far (p:=⟨gb808,2,none⟩) (Kd.R_far (p:=⟨gb808,1,none⟩) (Kd.R_far (p:=⟨gb808,0,none⟩) (Kd.R_types HO_8.out BK808.out (by decide)) (fun _ hk=>hk.2) (.int .i8 ((rd_T96 t803 x9_1).f0))) (fun _ hk=>hk.2) (.int .i8 ((rd_T96 t803 x9_1).f1))) (fun _ hk=>hk.2) (.int .i8 (IntKind.i8.wrap (a1)))) (fun _ hk=>hk.2) (.int .i8 (IntKind.i8.wrap (a2)))) (fun _ h_=>h_.1))) hb);have n1_:=am_ (kB_ (g:=gb802) (o:=.cells #[.int .i8 x803000_1,.int .i8 x803001_1,.int .i8 x803002_1,.int .i8 x803003_1] 49 (0,0)) (by refine kX_ ?_ NB802_808.out _;refine kX_ ?_ NB802_808.out _;refine kX_ ?_ NB802_808.out _;refine kX_ ?_ NB802_808.out _;exact BK802.out) hb);have n2_:=am_ (kB_ (g:=gb808) (o:=.cells #[.int .i8 ((rd_T96 t803 x9_1).f0),.int .i8 ((rd_T96 t803 x9_1).f1),.int .i8 (IntKind.i8.wrap (a1)),.int .i8 (IntKind.i8.wrap (a2))] 49 (0,0)) (by (with_reducible repeat (first|apply kN_|apply kD_|apply kA_));refine blk_put (cs:=#[.int .i8 ((rd_T96 t803 x9_1).f0),.int .i8 ((rd_T96 t803 x9_1).f1),.int .i8 (IntKind.i8.wrap (a1)),.int .i8 0]) ?_ 3 _ rfl;(with_reducible repeat (first|apply kN_|apply kD_|apply kA_));refine blk_put (cs:=#[.int .i8 ((rd_T96 t803 x9_1).f0),.int .i8 ((rd_T96 t803 x9_1).f1),.int .i8 0,.int .i8 0]) ?_ 2 _ rfl;(with_reducible repeat (first|apply kN_|apply kD_|apply kA_));refine blk_put (cs:=#[.int .i8 ((rd_T96 t803 x9_1).f0),.int .i8 0,.int .i8 0,.int .i8 0]) ?_ 1 _ rfl;(with_reducible repeat (first|apply kN_|apply kD_|apply kA_));refine blk_put (cs:=#[.int .i8 0,.int .i8 0,.int .i8 0,.int .i8 0]) ?_ 0 _ rfl;(with_reducible repeat (first|apply kN_|apply kD_|apply kA_));exact BK808.out) hb);have n3_:=am_ (bT_ (by repeat (first|(with_reducible first|exact HB.out|apply bA_|apply bN_|apply bD_|refine bS_ ?_ GE802.out|refine bS_ ?_ GE808.out)|exact HB.out)) hb);clear HO_8;clear BK802;clear BK808;clear HB;have HO_8:=n0_;have BK802:=n1_;have BK808:=n2_;have HB:=n3_;clear n0_ n1_ n2_ n3_;(try clear hb hb2 hk hi);have hcz21_0 : w20.cell? ⟨gb808,0,none⟩ = some (.int .i8 ((rd_T96 t803 x9_1).f0)):=(kC_ BK808.out 0).trans rfl;have hcz21_1 : w20.cell? ⟨gb808,1,none⟩ = some (.int .i8 ((rd_T96 t803 x9_1).f1)):=(kC_ BK808.out 1).trans rfl;have hcz21_2 : w20.cell? ⟨gb808,2,none⟩ = some (.int .i8 (IntKind.i8.wrap (a1))):=(kC_ BK808.out 2).trans rfl;have hcz21_3 : w20.cell? ⟨gb808,3,none⟩ = some (.int .i8 (IntKind.i8.wrap (a2))):=(kC_ BK808.out 3).trans rfl;have hfz21_0:=kF_ BK808.out 0;have hfz21_1:=kF_ BK808.out 1;have hfz21_2:=kF_ BK808.out 2;have hfz21_3:=kF_ BK808.out 3;have hcz22_0 : w20.cell? ⟨gb802,0,none⟩ = some (.int .i8 x803000_1):=(kC_ BK802.out 0).trans rfl;have hcz22_1 : w20.cell? ⟨gb802,1,none⟩ = some (.int .i8 x803001_1):=(kC_ BK802.out 1).trans rfl;have hcz22_2 : w20.cell? ⟨gb802,2,none⟩ = some (.int .i8 x803002_1):=(kC_ BK802.out 2).trans rfl;have hcz22_3 : w20.cell? ⟨gb802,3,none⟩ = some (.int .i8 x803003_1):=(kC_ BK802.out 3).trans rfl;have hfz22_0:=kF_ BK802.out 0;have hfz22_1:=kF_ BK802.out 1;have hfz22_2:=kF_ BK802.out 2;have hfz22_3:=kF_ BK802.out 3))
      refine bodyPost_ret (results_ct rfl _ _ gb802 49 #[.int .i8 ((rd_T96 t803 x9_1).f0),.int .i8 ((rd_T96 t803 x9_1).f1),.int .i8 (IntKind.i8.wrap (a1)),.int .i8 (IntKind.i8.wrap (a2))] (0,0) _ rfl (by (with_reducible repeat (first|apply kN_|apply kD_|apply kA_));refine blk_put (cs:=#[.int .i8 ((rd_T96 t803 x9_1).f0),.int .i8 ((rd_T96 t803 x9_1).f1),.int .i8 (IntKind.i8.wrap (a1)),.int .i8 x803003_1]) ?_ 3 _ rfl;(with_reducible repeat (first|apply kN_|apply kD_|apply kA_));refine blk_put (cs:=#[.int .i8 ((rd_T96 t803 x9_1).f0),.int .i8 ((rd_T96 t803 x9_1).f1),.int .i8 x803002_1,.int .i8 x803003_1]) ?_ 2 _ rfl;(with_reducible repeat (first|apply kN_|apply kD_|apply kA_));refine blk_put (cs:=#[.int .i8 ((rd_T96 t803 x9_1).f0),.int .i8 x803001_1,.int .i8 x803002_1,.int .i8 x803003_1]) ?_ 1 _ rfl;(with_reducible repeat (first|apply kN_|apply kD_|apply kA_));refine blk_put (cs:=#[.int .i8 x803000_1,.int .i8 x803001_1,.int .i8 x803002_1,.int .i8 x803003_1]) ?_ 0 _ rfl;(with_reducible repeat (first|apply kN_|apply kD_|apply kA_));exact BK802.out) Try.underlying49 rfl (by kernel_rfl)) rfl ?_;exact ⟨by first|rfl|(simp [errW_none,errW_some] <;> rfl)|(simp [*,errW_none,errW_some] <;> rfl),by repeat (first|(with_reducible first|exact HB.out|apply bA_|apply bN_|apply bD_|refine bS_ ?_ GE802.out|refine bS_ ?_ GE808.out)|exact HB.out)⟩
     ·
      replace c10:=Bool.eq_false_iff.mpr c10;subst c10;have H1 : (spec_l01Place.l0 k1 l0 a1 a2 t803 (wrap64 (x9_1 + 1))) = some (r1,r2,r3,r4,r5):=by rw [if_neg (show ¬ (false = true) by decide)] at H;exact H
      clear H;have H:=H1;clear H1;have H':=am_ H;clear H;obtain ⟨Ao23,co23,eo23⟩:=Kd.R_slice HO_8.out;subst eo23
      try go_wp2
      replace HO_8:=am_ (Kd.R_drew HO_8.out);replace BK802:=am_ (kD_ BK802.out);replace HB:=am_ (bD_ HB.out);have p806 : 0≤(x9_1 : Int):=od_ (by first|(with_reducible assumption)|assumption);have q806 : x9_1 < (t803.length : Int):=od_ (by first|(with_reducible assumption)|assumption);obtain ⟨ad806,e806,hx806_0,hx806_1⟩:=at_T96 (Kd.R_reads' HO_8.out).2.2 x9_1 p806 q806
      cases e806
      replace p806:=eq_true p806;replace q806:=eq_true q806;have p807 : 0≤(x9_1 : Int):=od_ (by first|(with_reducible assumption)|assumption);have q807 : x9_1 < (t803.length : Int):=od_ (by first|(with_reducible assumption)|assumption);obtain ⟨ad807,e807,hx807_0,hx807_1⟩:=at_T96 (Kd.R_reads' HO_8.out).2.2 x9_1 p807 q807;obtain rfl : ad806 = ad807:=(by injection e807)
      replace p807:=eq_true p807;replace q807:=eq_true q807;refine start_ (n:=17) (S:=fun w'=>w'.cell? (ad806.add ((x9_1).toNat * 2)) = some (.int .i8 ((rd_T96 t803 x9_1).f0)) ∧ w'.cell? ⟨(ad806.add ((x9_1).toNat * 2)).block,(ad806.add ((x9_1).toNat * 2)).off + 1,none⟩ = some (.int .i8 ((rd_T96 t803 x9_1).f1)) ∧ w'.cell? (ad806.add ((x9_1).toNat * 2)) = some (.int .i8 ((rd_T96 t803 x9_1).f0)) ∧ w'.cell? ⟨(ad806.add ((x9_1).toNat * 2)).block,(ad806.add ((x9_1).toNat * 2)).off + 1,none⟩ = some (.int .i8 ((rd_T96 t803 x9_1).f1))) (ds:=[]) (mB_ 17 0) (by kernel_rfl) rfl rfl ⟨hx806_0,hx806_1,hx807_0,hx807_1⟩ (fun hHeld=>?_);refine with_tabW spec_l01Place.tab5 spec_l01Place.bits5 (fun HT_ HW_=>?_);generalize wr.drew = w24 at HO_8 BK802 HB hx806_0 hx806_1 hx807_0 hx807_1 hHeld ⊢;refine pure_ (i:=0) (N:=some 19) (v:=?_) (a':=?_) (mB_ 17 1) rfl rfl (any_of HT_.out (by kernel_rfl)) (fun _ _ _ h=>h) (Or.inl ⟨by rfl,?_⟩) ?_ ?_;rotate_left;(· intro w';go_simp;with_reducible rfl);rotate_left;(· simp only [Act.put,z1_,z2_,z3_,i64_w,i32_w];rfl)
      refine pure_ (i:=1) (N:=some 20) (v:=?_) (a':=?_) (mB_ 17 3) rfl rfl (any_of HT_.out (by kernel_rfl)) (fun _ _ _ h=>h) (Or.inl ⟨by rfl,?_⟩) ?_ ?_;rotate_left;(· intro w';go_simp;with_reducible rfl);rotate_left;(· simp only [Act.put,z1_,z2_,z3_,i64_w,i32_w];rfl)
      refine pure_ (i:=2) (N:=some 21) (v:=?_) (a':=?_) (mB_ 17 7) rfl rfl (any_of HT_.out (by kernel_rfl)) (fun _ _ _ h=>h) (Or.inl ⟨by rfl,?_⟩) ?_ ?_;rotate_left;(· intro w';go_simp;with_reducible rfl);rotate_left;(· simp only [Act.put,z1_,z2_,z3_,i64_w,i32_w];rfl)
      refine pure_ (i:=3) (N:=some 22) (v:=?_) (a':=?_) (mB_ 17 15) rfl rfl (any_of HT_.out (by kernel_rfl)) (fun _ _ _ h=>h) (Or.inl ⟨by rfl,?_⟩) ?_ ?_;rotate_left;(· intro w';go_simp;with_reducible rfl);rotate_left;(· simp only [Act.put,z1_,z2_,z3_,i64_w,i32_w];rfl)
      refine pure_ (i:=5) (N:=some 24) (v:=?_) (a':=?_) (mB_ 17 47) rfl rfl (any_of HT_.out (by kernel_rfl)) (fun _ _ _ h=>h) (Or.inl ⟨by rfl,?_⟩) ?_ ?_;rotate_left;(· intro w';go_simp;with_reducible rfl);rotate_left;(· simp only [Act.put,z1_,z2_,z3_,i64_w,i32_w];rfl)
      refine pure_ (i:=6) (N:=some 25) (v:=?_) (a':=?_) (mB_ 17 111) rfl rfl (any_of HT_.out (by kernel_rfl)) (fun _ _ _ h=>h) (Or.inl ⟨by rfl,?_⟩) ?_ ?_;rotate_left;(· intro w';go_simp;with_reducible rfl);rotate_left;(· simp only [Act.put,z1_,z2_,z3_,i64_w,i32_w];rfl)
      refine pure_ (i:=7) (N:=some 26) (v:=?_) (a':=?_) (mB_ 17 239) rfl rfl (any_of HT_.out (by kernel_rfl)) (fun _ _ _ h=>h) (Or.inl ⟨by rfl,?_⟩) ?_ ?_;rotate_left;(· intro w';go_simp;with_reducible rfl);rotate_left;(· simp only [Act.put,z1_,z2_,z3_,i64_w,i32_w];rfl)
      refine pure_ (i:=8) (N:=some 27) (v:=?_) (a':=?_) (mB_ 17 495) rfl rfl (any_of HT_.out (by kernel_rfl)) (fun _ _ _ h=>h) (Or.inl ⟨by rfl,?_⟩) ?_ ?_;rotate_left;(· intro w';go_simp;with_reducible rfl);rotate_left;(· simp only [Act.put,z1_,z2_,z3_,i64_w,i32_w];rfl)
      refine pure_ (i:=10) (N:=some 29) (v:=?_) (a':=?_) (mB_ 17 1519) rfl rfl (any_of HT_.out (by kernel_rfl)) (fun _ _ _ h=>h) (Or.inl ⟨by rfl,?_⟩) ?_ ?_;rotate_left;(· intro w';go_simp;with_reducible rfl);rotate_left;(· simp only [Act.put,z1_,z2_,z3_,i64_w,i32_w];rfl)
      refine pure_ (i:=11) (N:=some 30) (v:=?_) (a':=?_) (mB_ 17 3567) rfl rfl (any_of HT_.out (by kernel_rfl)) (fun _ _ _ h=>h) (Or.inl ⟨by rfl,?_⟩) ?_ ?_;rotate_left;(· intro w';go_simp;with_reducible rfl);rotate_left;(· simp only [Act.put,z1_,z2_,z3_,i64_w,i32_w];rfl)
      refine pure_ (i:=12) (N:=some 31) (v:=?_) (a':=?_) (mB_ 17 7663) rfl rfl (any_of HT_.out (by kernel_rfl)) (fun _ _ _ h=>h) (Or.inl ⟨by rfl,?_⟩) ?_ ?_;rotate_left;(· intro w';go_simp;with_reducible rfl);rotate_left;(· simp only [Act.put,z1_,z2_,z3_,i64_w,i32_w];rfl)
      refine pure_ (i:=13) (N:=some 32) (v:=?_) (a':=?_) (mB_ 17 15855) rfl rfl (any_of HT_.out (by kernel_rfl)) (fun _ _ _ h=>h) (Or.inl ⟨by rfl,?_⟩) ?_ ?_;rotate_left;(· intro w';go_simp;with_reducible rfl);rotate_left;(· simp only [Act.put,z1_,z2_,z3_,i64_w,i32_w];rfl)
      refine take_ (i:=4) (N:=some 23) (v:=?_) (a':=?_) (mB_ 17 15871) rfl rfl (take_ofW HT_.out HW_.out (by kernel_rfl)) (fun _ _ _ h=>h) (Or.inl ⟨by rfl,?_⟩) hHeld ?_ ?_;rotate_left;(· rintro w' ⟨s0,s1,s2,s3⟩;go_simp;with_reducible rfl);rotate_left;(· simp only [Act.put,z1_,z2_,z3_,i64_w,i32_w];rfl)
      refine take_ (i:=9) (N:=some 28) (v:=?_) (a':=?_) (mB_ 17 16383) rfl rfl (take_ofW HT_.out HW_.out (by kernel_rfl)) (fun _ _ _ h=>h) (Or.inl ⟨by rfl,?_⟩) hHeld ?_ ?_;rotate_left;(· rintro w' ⟨s0,s1,s2,s3⟩;go_simp;with_reducible rfl);rotate_left;(· simp only [Act.put,z1_,z2_,z3_,i64_w,i32_w];rfl)
      refine pure_ (i:=14) (N:=some 33) (v:=?_) (a':=?_) (mB_ 17 32767) rfl rfl (any_of HT_.out (by kernel_rfl)) (fun _ _ _ h=>h) (Or.inl ⟨by rfl,?_⟩) ?_ ?_;rotate_left;(· intro w';go_simp;with_reducible rfl);rotate_left;(· simp only [Act.put,z1_,z2_,z3_,i64_w,i32_w];rfl)
      refine one_ (i:=15) (N:=some 10) (mB_ 17 65535) rfl rfl (one_of HT_.out (by kernel_rfl)) (by decide) (fun K hK=>?_);refine box_step ?hg (N:=10) ?hd (cs:=#[.int .i8 0,.int .i8 0,.int .i8 0,.int .i8 0]) (t:=49) ?hr ?_;(case hd=>rfl);(case hg=>rfl);(case hr=>first|(go_simp;done)|(go_simp;rfl));intro gb808 hg w25 hbox hb;have HS0_:=(hb.cell (bl_ _ _ (hHeld.1))).trans (hHeld.1);have HS1_:=(hb.cell (bl_ _ _ (hHeld.2.1))).trans (hHeld.2.1);have HS2_:=(hb.cell (bl_ _ _ (hHeld.2.2.1))).trans (hHeld.2.2.1);have HS3_:=(hb.cell (bl_ _ _ (hHeld.2.2.2))).trans (hHeld.2.2.2);have n0_:=am_ (Kd.R_below HO_8.out hb);have n1_:=am_ (kB_ BK802.out hb);have n2_:=am_ (bT_ HB.out hb);have n3_:=am_ (hbox);have n4_:=am_ ((by rw [hg];exact (bZ_ HB.out) : w.heap.size≤gb808));have n5_:=am_ ((by rw [hg];exact (bZ_ HB.out) : w.heap.size≤gb808));have n6_:=am_ ((by rw [hg];exact nL_ (kL_ BK802.out) : gb802 ≠ gb808));have n7_:=am_ ((by rw [hg];exact nG_ (kL_ BK802.out) : gb808 ≠ gb802));clear HO_8;clear BK802;clear HB;have HO_8:=n0_;have BK802:=n1_;have HB:=n2_;have BK808:=n3_;have GW808:=n4_;have GE808:=n5_;have NB802_808:=n6_;have NB808_802:=n7_;clear n0_ n1_ n2_ n3_ n4_ n5_ n6_ n7_;clear hb hbox hg;refine hK.out _ _ ⟨HS0_,HS1_,HS2_,HS3_⟩ (fun hHeld=>?_);clear hK K;refine norm_ (a':=?_) ?_ ?_;rotate_left
      · show Act.put _ (some 10) _ = _;simp only [Act.put,z1_,z2_,z3_,i64_w,i32_w];rfl
      refine one_ (i:=16) (N:=none) (mB_ 17 131071) rfl rfl (one_of HT_.out (by kernel_rfl)) (by decide) (fun K hK=>?_);have hs26 : w25.cell? ⟨gb808,0,none⟩ = some (.int .i8 0):=(kC_ BK808.out 0).trans rfl;have hfs26:=kF_ BK808.out 0;have hns26_0:=NB802_808.out;have hms26_0:=NB808_802.out;have hs27 : w25.cell? ⟨gb808,1,none⟩ = some (.int .i8 0):=(kC_ BK808.out 1).trans rfl;have hfs27:=kF_ BK808.out 1;have hns27_0:=NB802_808.out;have hms27_0:=NB808_802.out;have hs28 : w25.cell? ⟨gb808,2,none⟩ = some (.int .i8 0):=(kC_ BK808.out 2).trans rfl;have hfs28:=kF_ BK808.out 2;have hns28_0:=NB802_808.out;have hms28_0:=NB808_802.out;have hs29 : w25.cell? ⟨gb808,3,none⟩ = some (.int .i8 0):=(kC_ BK808.out 3).trans rfl;have hfs29:=kF_ BK808.out 3;have hns29_0:=NB802_808.out;have hms29_0:=NB808_802.out;refine skip_ (w1:=?_) (by rfl) rfl ?_ ?_;rotate_left
      · go_simp;rfl
      refine hK.out _ _ ⟨((cell_far (p:=⟨gb808,_,none⟩) (by first|exact Kd.own_blk (Kd.R_ne HO_8.out BK808.out (by decide))|((first|rw [add_block]|(show (Addr.add _ _).block ≠ _;rw [add_block])|dsimp only);exact Kd.own_blk (Kd.R_ne HO_8.out BK808.out (by decide)))) _).trans (((cell_far (p:=⟨gb808,_,none⟩) (by first|exact Kd.own_blk (Kd.R_ne HO_8.out BK808.out (by decide))|((first|rw [add_block]|(show (Addr.add _ _).block ≠ _;rw [add_block])|dsimp only);exact Kd.own_blk (Kd.R_ne HO_8.out BK808.out (by decide)))) _).trans (((cell_far (p:=⟨gb808,_,none⟩) (by first|exact Kd.own_blk (Kd.R_ne HO_8.out BK808.out (by decide))|((first|rw [add_block]|(show (Addr.add _ _).block ≠ _;rw [add_block])|dsimp only);exact Kd.own_blk (Kd.R_ne HO_8.out BK808.out (by decide)))) _).trans (((cell_far (p:=⟨gb808,_,none⟩) (by first|exact Kd.own_blk (Kd.R_ne HO_8.out BK808.out (by decide))|((first|rw [add_block]|(show (Addr.add _ _).block ≠ _;rw [add_block])|dsimp only);exact Kd.own_blk (Kd.R_ne HO_8.out BK808.out (by decide)))) _).trans (hHeld.1)))))))),((cell_far (p:=⟨gb808,_,none⟩) (by first|exact Kd.own_blk (Kd.R_ne HO_8.out BK808.out (by decide))|((first|rw [add_block]|(show (Addr.add _ _).block ≠ _;rw [add_block])|dsimp only);exact Kd.own_blk (Kd.R_ne HO_8.out BK808.out (by decide)))) _).trans (((cell_far (p:=⟨gb808,_,none⟩) (by first|exact Kd.own_blk (Kd.R_ne HO_8.out BK808.out (by decide))|((first|rw [add_block]|(show (Addr.add _ _).block ≠ _;rw [add_block])|dsimp only);exact Kd.own_blk (Kd.R_ne HO_8.out BK808.out (by decide)))) _).trans (((cell_far (p:=⟨gb808,_,none⟩) (by first|exact Kd.own_blk (Kd.R_ne HO_8.out BK808.out (by decide))|((first|rw [add_block]|(show (Addr.add _ _).block ≠ _;rw [add_block])|dsimp only);exact Kd.own_blk (Kd.R_ne HO_8.out BK808.out (by decide)))) _).trans (((cell_far (p:=⟨gb808,_,none⟩) (by first|exact Kd.own_blk (Kd.R_ne HO_8.out BK808.out (by decide))|((first|rw [add_block]|(show (Addr.add _ _).block ≠ _;rw [add_block])|dsimp only);exact Kd.own_blk (Kd.R_ne HO_8.out BK808.out (by decide)))) _).trans (hHeld.2.1)))))))),((cell_far (p:=⟨gb808,_,none⟩) (by first|exact Kd.own_blk (Kd.R_ne HO_8.out BK808.out (by decide))|((first|rw [add_block]|(show (Addr.add _ _).block ≠ _;rw [add_block])|dsimp only);exact Kd.own_blk (Kd.R_ne HO_8.out BK808.out (by decide)))) _).trans (((cell_far (p:=⟨gb808,_,none⟩) (by first|exact Kd.own_blk (Kd.R_ne HO_8.out BK808.out (by decide))|((first|rw [add_block]|(show (Addr.add _ _).block ≠ _;rw [add_block])|dsimp only);exact Kd.own_blk (Kd.R_ne HO_8.out BK808.out (by decide)))) _).trans (((cell_far (p:=⟨gb808,_,none⟩) (by first|exact Kd.own_blk (Kd.R_ne HO_8.out BK808.out (by decide))|((first|rw [add_block]|(show (Addr.add _ _).block ≠ _;rw [add_block])|dsimp only);exact Kd.own_blk (Kd.R_ne HO_8.out BK808.out (by decide)))) _).trans (((cell_far (p:=⟨gb808,_,none⟩) (by first|exact Kd.own_blk (Kd.R_ne HO_8.out BK808.out (by decide))|((first|rw [add_block]|(show (Addr.add _ _).block ≠ _;rw [add_block])|dsimp only);exact Kd.own_blk (Kd.R_ne HO_8.out BK808.out (by decide)))) _).trans (hHeld.2.2.1)))))))),((cell_far (p:=⟨gb808,_,none⟩) (by first|exact Kd.own_blk (Kd.R_ne HO_8.out BK808.out (by decide))|((first|rw [add_block]|(show (Addr.add _ _).block ≠ _;rw [add_block])|dsimp only);exact Kd.own_blk (Kd.R_ne HO_8.out BK808.out (by decide)))) _).trans (((cell_far (p:=⟨gb808,_,none⟩) (by first|exact Kd.own_blk (Kd.R_ne HO_8.out BK808.out (by decide))|((first|rw [add_block]|(show (Addr.add _ _).block ≠ _;rw [add_block])|dsimp only);exact Kd.own_blk (Kd.R_ne HO_8.out BK808.out (by decide)))) _).trans (((cell_far (p:=⟨gb808,_,none⟩) (by first|exact Kd.own_blk (Kd.R_ne HO_8.out BK808.out (by decide))|((first|rw [add_block]|(show (Addr.add _ _).block ≠ _;rw [add_block])|dsimp only);exact Kd.own_blk (Kd.R_ne HO_8.out BK808.out (by decide)))) _).trans (((cell_far (p:=⟨gb808,_,none⟩) (by first|exact Kd.own_blk (Kd.R_ne HO_8.out BK808.out (by decide))|((first|rw [add_block]|(show (Addr.add _ _).block ≠ _;rw [add_block])|dsimp only);exact Kd.own_blk (Kd.R_ne HO_8.out BK808.out (by decide)))) _).trans (hHeld.2.2.2))))))))⟩ (fun hHeld=>?_)
      clear hK K;refine done_ (done_of HT_.out (by kernel_rfl)) ?_;have hnb30:=NB808_802.out;have hnc30:=NB802_808.out;have hcz31_0 : w25.cell? ⟨gb808,0,none⟩ = some (.int .i8 0):=(kC_ BK808.out 0).trans rfl;have hcz31_1 : w25.cell? ⟨gb808,1,none⟩ = some (.int .i8 0):=(kC_ BK808.out 1).trans rfl;have hcz31_2 : w25.cell? ⟨gb808,2,none⟩ = some (.int .i8 0):=(kC_ BK808.out 2).trans rfl;have hcz31_3 : w25.cell? ⟨gb808,3,none⟩ = some (.int .i8 0):=(kC_ BK808.out 3).trans rfl;have hfz31_0:=kF_ BK808.out 0;have hfz31_1:=kF_ BK808.out 1;have hfz31_2:=kF_ BK808.out 2;have hfz31_3:=kF_ BK808.out 3
      try go_wp2_with (first|((with_reducible refine gate_callee (f:=60) rfl ?_);refine goesL_ (some 36) rfl rfl Try.func60 (by kernel_rfl) rfl #[.pointer A0,.agg #[.int .i8 ((rd_T96 t803 x9_1).f0),.int .i8 ((rd_T96 t803 x9_1).f1),.int .i8 (IntKind.i8.wrap (a1)),.int .i8 (IntKind.i8.wrap (a2))]] rfl (by (try simp only [List.map_toArray,List.map_cons,List.map_nil]);first|done|rfl|(simp only [List.length_drop,List.length_take];rfl)) ?_;(with_reducible refine (spec_l01Can.calls k1 _ c0 l0 ((rd_T96 t803 x9_1).f0) ((rd_T96 t803 x9_1).f1) (IntKind.i8.wrap (a1)) (IntKind.i8.wrap (a2)) false _ ?side1 ?side2 A9.out).mono ?_);(case side1=>exact cB_ HR0.out (by repeat (first|(with_reducible first|exact HB.out|apply bA_|apply bN_|apply bD_|refine bS_ ?_ GE802.out|refine bS_ ?_ GE808.out)|exact HB.out)));(case side2=>exact HC0.out);rintro e w32 ⟨rfl,hb⟩;refine ⟨_,rfl,?_⟩;have n0_:=am_ (Kd.R_below ((rM_ (Kd.R_far (p:=⟨gb808,3,none⟩) (Kd.R_far (p:=⟨gb808,2,none⟩) (Kd.R_far (p:=⟨gb808,1,none⟩) (Kd.R_far (p:=⟨gb808,0,none⟩) (Kd.R_types HO_8.out BK808.out (by decide)) (fun _ hk=>hk.2) (.int .i8 ((rd_T96 t803 x9_1).f0))) (fun _ hk=>hk.2) (.int .i8 ((rd_T96 t803 x9_1).f1))) (fun _ hk=>hk.2) (.int .i8 (IntKind.i8.wrap (a1)))) (fun _ hk=>hk.2) (.int .i8 (IntKind.i8.wrap (a2)))) (fun _ h_=>h_.1))) hb);have n1_:=am_ (kB_ (g:=gb802) (o:=.cells #[.int .i8 x803000_1,.int .i8 x803001_1,.int .i8 x803002_1,.int .i8 x803003_1] 49 (0,0)) (by refine kX_ ?_ NB802_808.out _;refine kX_ ?_ NB802_808.out _;refine kX_ ?_ NB802_808.out _;refine kX_ ?_ NB802_808.out _;exact BK802.out) hb);have n2_:=am_ (kB_ (g:=gb808) (o:=.cells #[.int .i8 ((rd_T96 t803 x9_1).f0),.int .i8 ((rd_T96 t803 x9_1).f1),.int .i8 (IntKind.i8.wrap (a1)),.int .i8 (IntKind.i8.wrap (a2))] 49 (0,0)) (by (with_reducible repeat (first|apply kN_|apply kD_|apply kA_));refine blk_put (cs:=#[.int .i8 ((rd_T96 t803 x9_1).f0),.int .i8 ((rd_T96 t803 x9_1).f1),.int .i8 (IntKind.i8.wrap (a1)),.int .i8 0]) ?_ 3 _ rfl;(with_reducible repeat (first|apply kN_|apply kD_|apply kA_));refine blk_put (cs:=#[.int .i8 ((rd_T96 t803 x9_1).f0),.int .i8 ((rd_T96 t803 x9_1).f1),.int .i8 0,.int .i8 0]) ?_ 2 _ rfl;(with_reducible repeat (first|apply kN_|apply kD_|apply kA_));refine blk_put (cs:=#[.int .i8 ((rd_T96 t803 x9_1).f0),.int .i8 0,.int .i8 0,.int .i8 0]) ?_ 1 _ rfl;(with_reducible repeat (first|apply kN_|apply kD_|apply kA_));refine blk_put (cs:=#[.int .i8 0,.int .i8 0,.int .i8 0,.int .i8 0]) ?_ 0 _ rfl;(with_reducible repeat (first|apply kN_|apply kD_|apply kA_));exact BK808.out) hb);have n3_:=am_ (bT_ (by repeat (first|(with_reducible first|exact HB.out|apply bA_|apply bN_|apply bD_|refine bS_ ?_ GE802.out|refine bS_ ?_ GE808.out)|exact HB.out)) hb);clear HO_8;clear BK802;clear BK808;clear HB;have HO_8:=n0_;have BK802:=n1_;have BK808:=n2_;have HB:=n3_;clear n0_ n1_ n2_ n3_;(try clear hb hb2 hk hi)))
      go_roundg k1
      case measure=>have:=HK1.out;omega
      case rel=>exact ⟨(wrap64 (x9_1 + 1)),(x803000_1),(x803001_1),(x803002_1),(x803003_1),(by first|rfl|(simp;done)|(simp [*];done)),H',⟨by have:=HK1.out;omega⟩,⟨by (with_reducible repeat (first|apply Kd.R_alloc|apply Kd.R_drewN|apply Kd.R_drew));exact HO_8.out⟩,⟨by (with_reducible repeat (first|apply kN_|apply kD_|apply kA_));exact BK802.out⟩,⟨by repeat (first|(with_reducible first|exact HB.out|apply bA_|apply bN_|apply bD_|refine bS_ ?_ GE802.out|refine bS_ ?_ GE808.out)|exact HB.out)⟩⟩
    · rw [if_neg c8] at H;exact absurd H (by simp)
   ·
    rw [if_neg c7] at H;have c7b0 : decide (x9_1 < (t803.length : Int)) = false:=decide_eq_false c7;clear c7;simp only [Option.some.injEq,Prod.mk.injEq] at H;obtain ⟨rfl,rfl,rfl,rfl,rfl⟩:=H;obtain ⟨Ao33,co33,eo33⟩:=Kd.R_slice HO_8.out;subst eo33;have hcz34_0 : wr.cell? ⟨gb802,0,none⟩ = some (.int .i8 x803000_1):=(kC_ BK802.out 0).trans rfl;have hcz34_1 : wr.cell? ⟨gb802,1,none⟩ = some (.int .i8 x803001_1):=(kC_ BK802.out 1).trans rfl;have hcz34_2 : wr.cell? ⟨gb802,2,none⟩ = some (.int .i8 x803002_1):=(kC_ BK802.out 2).trans rfl;have hcz34_3 : wr.cell? ⟨gb802,3,none⟩ = some (.int .i8 x803003_1):=(kC_ BK802.out 3).trans rfl;have hfz34_0:=kF_ BK802.out 0;have hfz34_1:=kF_ BK802.out 1;have hfz34_2:=kF_ BK802.out 2;have hfz34_3:=kF_ BK802.out 3
    go_wp2
    refine bodyPost_ret (results_ct rfl _ _ gb802 49 #[.int .i8 0,.int .i8 0,.int .i8 0,.int .i8 0] (0,0) _ rfl (by (with_reducible repeat (first|apply kN_|apply kD_|apply kA_));refine blk_put (cs:=#[.int .i8 0,.int .i8 0,.int .i8 0,.int .i8 x803003_1]) ?_ 3 _ rfl;(with_reducible repeat (first|apply kN_|apply kD_|apply kA_));refine blk_put (cs:=#[.int .i8 0,.int .i8 0,.int .i8 x803002_1,.int .i8 x803003_1]) ?_ 2 _ rfl;(with_reducible repeat (first|apply kN_|apply kD_|apply kA_));refine blk_put (cs:=#[.int .i8 0,.int .i8 x803001_1,.int .i8 x803002_1,.int .i8 x803003_1]) ?_ 1 _ rfl;(with_reducible repeat (first|apply kN_|apply kD_|apply kA_));refine blk_put (cs:=#[.int .i8 x803000_1,.int .i8 x803001_1,.int .i8 x803002_1,.int .i8 x803003_1]) ?_ 0 _ rfl;(with_reducible repeat (first|apply kN_|apply kD_|apply kA_));exact BK802.out) Try.underlying49 rfl (by kernel_rfl)) rfl ?_;exact ⟨by first|rfl|(simp [errW_none,errW_some] <;> rfl)|(simp [*,errW_none,errW_some] <;> rfl),by repeat (first|(with_reducible first|exact HB.out|apply bA_|apply bN_|apply bD_|refine bS_ ?_ GE802.out)|exact HB.out)⟩
end Go.Proofs.Ytjadgmafgkoanaa.Q
