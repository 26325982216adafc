-- Trimmed by a program.
import Derived.Test.YtgpfjmkmopjfbaaXQ0
import Derived.Test.YtgpfjmkmopjfbaaXQ1
import Derived.Test.YtgpfjmkmopjfbaaXQ4
namespace Go.Proofs.Ytgpfjmkmopjfbaa.Q
open RowKit YtgpfjmkmopjfbaaW.PrintWords YtgpfjmkmopjfbaaW.PrintLast YtgpfjmkmopjfbaaW.PrintMore
attribute [local go_sem] max2_int min2_int max_two min_two max_three min_three max_four min_four
set_option linter.unusedVariables false
set_option linter.unusedSimpArgs false
def spec_l01Ok.f (k : Nat) (l0 : List (S29)) : Option (Bool) := (spec_l01Lay.f k l0).bind fun bt133 => (if bt133.1.length = 144 then (some bt133.2) else (none))
theorem spec_l01Ok.mono : ∀ a0 k, LeO (spec_l01Ok.f k a0) (spec_l01Ok.f (k + 1) a0) := by
 intro a0 k
 unfold spec_l01Ok.f
 repeat' first
   | (with_reducible exact spec_l01Lay.mono _ _)
   | (with_reducible exact LeO.refl _)
   | (with_reducible exact LeO.none _)
   | (with_reducible refine LeO.ite ?_ ?_)
   | (with_reducible refine LeO.bind ?_ (fun _=>?_))
   | exact spec_l01Lay.mono _ _
   | exact LeO.none _
   | refine LeO.ite ?_ ?_
   | refine LeO.bind ?_ (fun _=>?_)
set_option maxHeartbeats 8000000 in
set_option maxRecDepth 100000 in
theorem spec_l01Ok.calls (k : Nat) (A0 : Option Addr) (c0 : Nat) (l0 : List (S29)) (r : Bool) (w : World) (hr0 : Kd.C k29 w A0 l0.length l0) (hc0 : l0.length ≤ c0) (h : spec_l01Ok.f k l0 = some r) :
  Calls Try.prog 30 #[.pointer A0] w fun e w'=>e = .returned (.bool r) ∧ Below w.heap.size w w':=by
 have hu60:=Try.underlying60;have HR0:=am_ hr0;have HC0:=am_ hc0;clear hr0 hc0;have HB:=am_ (Below.refl w.heap.size w);have H : ((spec_l01Lay.f k l0).bind fun bt133=>(if bt133.1.length = 144 then (some bt133.2) else (none))) = some r:=h;clear h;replace H:=Option.bind_eq_some_iff.mp H;obtain ⟨⟨t133,t134⟩,A20,H⟩:=H;replace H : (if t133.length = 144 then (some t134) else (none)) = some r:=H;have A2:=am_ A20;clear A20
 by_cases c3 : t133.length = 144
 ·
  rw [if_pos c3] at H;have c3b0:=eq_true c3;have c3b1 : decide (t133.length = 144) = true:=decide_eq_true c3;clear c3;obtain rfl:=Option.some.inj H
  go_enter Try.func30,Try.ntmps30
  go_wp2_with (first|((with_reducible refine gate_callee (f:=31) rfl ?_);refine goesL_ (some 7) rfl rfl Try.func31 (by kernel_rfl) rfl #[.pointer A0] rfl (by (try simp only [List.map_toArray,List.map_cons,List.map_nil]);first|done|rfl|(simp only [List.length_drop,List.length_take];rfl)) ?_;(with_reducible refine (spec_l01Lay.calls k _ c0 l0 t133 t134 _ ?side1 ?side2 A2.out).mono ?_);(case side1=>repeat (first|exact HR0.out|(with_reducible refine Kd.C_alloc ?_ _)|(with_reducible refine Kd.C_drewN ?_ _)|(with_reducible refine Kd.C_drew ?_)));(case side2=>exact HC0.out);rintro e w4 ⟨rfl,hb⟩;refine ⟨_,rfl,?_⟩;replace HB:=am_ (bT_ HB.out hb);(try clear hb hb2 hk hi))|((with_reducible refine gate_dst (N:=3) rfl ?_);refine box_event ?hg (N:=3) ?hd (cs:=(arrC .i64 (arrZ 144))) (t:=60) ?hr ?_;(case hd=>rfl);(case hg=>rfl);(case hr=>exact arr_alloc rfl .i64 144 (by kernel_rfl));intro gb135 hg w5 hbox hb;have n0_:=am_ (bT_ HB.out hb);have n1_:=am_ (hbox);have n2_:=am_ ((by rw [hg];exact (bZ_ HB.out) : w.heap.size≤gb135));have n3_:=n2_;clear HB;have HB:=n0_;have BK135:=n1_;have GW135:=n2_;have GE135:=n3_;clear n0_ n1_ n2_ n3_;clear hb hbox hg)|((with_reducible refine gate_store (t:=60) (p:=3) rfl ?_);refine arr_store (p:=3) (v:=?vv_w6) (n:=144) (k:=.i64) (g:=gb135) (l:=(arrZ 144)) (l2:=t133) ?hg ?hn (t:=60) ?ho ?hp ?hv BK135.out (by kernel_rfl) (arrZ_length _) (od_ (by first|(with_reducible assumption)|assumption)) ?_;(case ho=>rfl);(case hg=>rfl);(case hn=>rfl);(case hp=>rfl);(case hv=>rfl);intro w6 hg hx;have n0_:=am_ (hx);have n1_:=am_ (Below.grown HB.out hg (bZ_ HB.out) (fun k_ e_=>by cases e_;exact GE135.out));clear BK135;clear HB;have BK135:=n0_;have HB:=n1_;clear n0_ n1_;clear hg hx))
  go_ret
  exact ⟨by first|rfl|(simp [errW_none,errW_some] <;> rfl)|(simp [*,errW_none,errW_some] <;> rfl),by repeat (first|(with_reducible first|exact HB.out|apply bA_|apply bN_|apply bD_|refine bS_ ?_ GE135.out)|exact HB.out)⟩
 · rw [if_neg c3] at H;exact absurd H (by simp)
def spec_l01Told.f (k : Nat) (l0 : List (S29)) (a1 : Bool) : Option (Int) := (spec_l01Ok.f k l0).bind fun t136 => (if t136 = true then (if a1 = true then (some 0) else (some 2)) else (some 1))
theorem spec_l01Told.mono : ∀ a0 a1 k, LeO (spec_l01Told.f k a0 a1) (spec_l01Told.f (k + 1) a0 a1) := by
 intro a0 a1 k
 unfold spec_l01Told.f
 repeat' first
   | (with_reducible exact spec_l01Ok.mono _ _)
   | (with_reducible exact LeO.refl _)
   | (with_reducible exact LeO.none _)
   | (with_reducible refine LeO.ite ?_ ?_)
   | (with_reducible refine LeO.bind ?_ (fun _=>?_))
   | exact spec_l01Ok.mono _ _
   | exact LeO.none _
   | refine LeO.ite ?_ ?_
   | refine LeO.bind ?_ (fun _=>?_)
set_option maxHeartbeats 8000000 in
set_option maxRecDepth 100000 in
theorem spec_l01Told.calls (k : Nat) (A0 : Option Addr) (c0 : Nat) (l0 : List (S29)) (a1 : Bool) (r : Int) (w : World) (hr0 : Kd.C k29 w A0 l0.length l0) (hc0 : l0.length ≤ c0) (h : spec_l01Told.f k l0 a1 = some r) :
  Calls Try.prog 19 #[.pointer A0,.bool a1] w fun e w'=>e = .returned (.int .i64 r) ∧ Below w.heap.size w w':=by
 have HR0:=am_ hr0;have HC0:=am_ hc0;clear hr0 hc0;have HB:=am_ (Below.refl w.heap.size w);have H : ((spec_l01Ok.f k l0).bind fun t136=>(if t136 = true then (if a1 = true then (some 0) else (some 2)) else (some 1))) = some r:=h;clear h;replace H:=Option.bind_eq_some_iff.mp H;obtain ⟨t136,A30,H⟩:=H;replace H : (if t136 = true then (if a1 = true then (some 0) else (some 2)) else (some 1)) = some r:=H;have A3:=am_ A30;clear A30
 by_cases c4 : t136 = true
 ·
  subst c4;have H1 : (if a1 = true then (some 0) else (some 2)) = some r:=by rw [if_pos rfl] at H;exact H
  clear H;have H:=H1;clear H1
  by_cases c5 : a1 = true
  ·
   subst c5;have H1 : (some 0) = some r:=by rw [if_pos rfl] at H;exact H
   clear H;have H:=H1;clear H1;obtain rfl:=Option.some.inj H
   go_enter Try.func19,Try.ntmps19
   go_wp2_with (first|((with_reducible refine gate_callee (f:=30) rfl ?_);refine goesL_ (some 6) rfl rfl Try.func30 (by kernel_rfl) rfl #[.pointer A0] rfl (by (try simp only [List.map_toArray,List.map_cons,List.map_nil]);first|done|rfl|(simp only [List.length_drop,List.length_take];rfl)) ?_;(with_reducible refine (spec_l01Ok.calls k _ c0 l0 true _ ?side1 ?side2 A3.out).mono ?_);(case side1=>repeat (first|exact HR0.out|(with_reducible refine Kd.C_alloc ?_ _)|(with_reducible refine Kd.C_drewN ?_ _)|(with_reducible refine Kd.C_drew ?_)));(case side2=>exact HC0.out);rintro e w6 ⟨rfl,hb⟩;refine ⟨_,rfl,?_⟩;replace HB:=am_ (bT_ HB.out hb);(try clear hb hb2 hk hi)))
   go_ret
   exact ⟨by first|rfl|(simp [errW_none,errW_some] <;> rfl)|(simp [*,errW_none,errW_some] <;> rfl),by repeat (first|(with_reducible first|exact HB.out|apply bA_|apply bN_|apply bD_)|exact HB.out)⟩
  ·
   replace c5:=Bool.eq_false_iff.mpr c5;subst c5;have H1 : (some 2) = some r:=by rw [if_neg (show ¬ (false = true) by decide)] at H;exact H
   clear H;have H:=H1;clear H1;obtain rfl:=Option.some.inj H
   go_enter Try.func19,Try.ntmps19
   go_wp2_with (first|((with_reducible refine gate_callee (f:=30) rfl ?_);refine goesL_ (some 6) rfl rfl Try.func30 (by kernel_rfl) rfl #[.pointer A0] rfl (by (try simp only [List.map_toArray,List.map_cons,List.map_nil]);first|done|rfl|(simp only [List.length_drop,List.length_take];rfl)) ?_;(with_reducible refine (spec_l01Ok.calls k _ c0 l0 true _ ?side1 ?side2 A3.out).mono ?_);(case side1=>repeat (first|exact HR0.out|(with_reducible refine Kd.C_alloc ?_ _)|(with_reducible refine Kd.C_drewN ?_ _)|(with_reducible refine Kd.C_drew ?_)));(case side2=>exact HC0.out);rintro e w7 ⟨rfl,hb⟩;refine ⟨_,rfl,?_⟩;replace HB:=am_ (bT_ HB.out hb);(try clear hb hb2 hk hi)))
   go_ret
   exact ⟨by first|rfl|(simp [errW_none,errW_some] <;> rfl)|(simp [*,errW_none,errW_some] <;> rfl),by repeat (first|(with_reducible first|exact HB.out|apply bA_|apply bN_|apply bD_)|exact HB.out)⟩
 ·
  replace c4:=Bool.eq_false_iff.mpr c4;subst c4;have H1 : (some 1) = some r:=by rw [if_neg (show ¬ (false = true) by decide)] at H;exact H
  clear H;have H:=H1;clear H1;obtain rfl:=Option.some.inj H
  go_enter Try.func19,Try.ntmps19
  go_wp2_with (first|((with_reducible refine gate_callee (f:=30) rfl ?_);refine goesL_ (some 6) rfl rfl Try.func30 (by kernel_rfl) rfl #[.pointer A0] rfl (by (try simp only [List.map_toArray,List.map_cons,List.map_nil]);first|done|rfl|(simp only [List.length_drop,List.length_take];rfl)) ?_;(with_reducible refine (spec_l01Ok.calls k _ c0 l0 false _ ?side1 ?side2 A3.out).mono ?_);(case side1=>repeat (first|exact HR0.out|(with_reducible refine Kd.C_alloc ?_ _)|(with_reducible refine Kd.C_drewN ?_ _)|(with_reducible refine Kd.C_drew ?_)));(case side2=>exact HC0.out);rintro e w8 ⟨rfl,hb⟩;refine ⟨_,rfl,?_⟩;replace HB:=am_ (bT_ HB.out hb);(try clear hb hb2 hk hi)))
  go_ret
  exact ⟨by first|rfl|(simp [errW_none,errW_some] <;> rfl)|(simp [*,errW_none,errW_some] <;> rfl),by repeat (first|(with_reducible first|exact HB.out|apply bA_|apply bN_|apply bD_)|exact HB.out)⟩
def spec_l01Index.f (l0 : List (S29)) (a1 : Int) : Option (Bool) := if 0 < (l0.length : Int) then ((spec_l00In.f a1 0 (wrap64 ((((rd_T29 l0 0).f2).length : Int) - 1))).bind fun t139 => (some t139)) else (none)
set_option maxHeartbeats 8000000 in
set_option maxRecDepth 100000 in
theorem spec_l01Index.calls (A0 : Option Addr) (c0 : Nat) (l0 : List (S29)) (a1 : Int) (r : Bool) (w : World) (hr0 : Kd.C k29 w A0 l0.length l0) (hc0 : l0.length ≤ c0) (h : spec_l01Index.f l0 a1 = some r) :
  Calls Try.prog 20 #[.pointer A0,.int .i64 a1] w fun e w'=>e = .returned (.bool r) ∧ Drawn0 w w':=by
 have HR0:=am_ hr0;have HC0:=am_ hc0;clear hr0 hc0;have H : (if 0 < (l0.length : Int) then ((spec_l00In.f a1 0 (wrap64 ((((rd_T29 l0 0).f2).length : Int) - 1))).bind fun t139=>(some t139)) else (none)) = some r:=h;clear h
 by_cases c3 : 0 < (l0.length : Int)
 ·
  rw [if_pos c3] at H;have c3b0 : decide (0 < (l0.length : Int)) = true:=decide_eq_true c3;have c3b1 : decide (0 < l0.length) = true:=decide_eq_true (by omega);clear c3;replace H:=Option.bind_eq_some_iff.mp H;obtain ⟨t139,A40,H⟩:=H;replace H : (some t139) = some r:=H;have A4:=am_ A40;clear A40;obtain rfl:=Option.some.inj H;have p137 : 0≤(0 : Int):=(by omega)
  have q137 : 0 < (l0.length : Int):=od_ (by first|(with_reducible assumption)|assumption);obtain ⟨ad137,A137_2,c137_2,e137,hx137_0,hx137_1,hx137_2,hl137_2,hi137_2⟩:=at_T29 HR0.out 0 p137 q137
  cases e137
  have qi137 : (0 < l0.length) = True:=eq_true (by omega);(try rw [show ((0 : Int)).toNat = 0 from rfl] at hx137_0);(try rw [show 0 * 3 = 0 from rfl] at hx137_0);(try rw [Addr.add_zero'] at hx137_0);(try rw [show ((0 : Int)).toNat = 0 from rfl] at hx137_1);(try rw [show 0 * 3 = 0 from rfl] at hx137_1);(try rw [Addr.add_zero'] at hx137_1);(try rw [show ((0 : Int)).toNat = 0 from rfl] at hx137_2);(try rw [show 0 * 3 = 0 from rfl] at hx137_2);(try rw [Addr.add_zero'] at hx137_2);have HR137_2:=am_ hi137_2;have HC137_2:=am_ hl137_2;clear hi137_2 hl137_2;replace p137:=eq_true p137;replace q137:=eq_true q137;have p138 : 0≤(0 : Int):=(by omega)
  have q138 : 0 < (l0.length : Int):=od_ (by first|(with_reducible assumption)|assumption);obtain ⟨ad138,A138_2,c138_2,e138,hx138_0,hx138_1,hx138_2,hl138_2,hi138_2⟩:=at_T29 HR0.out 0 p138 q138;obtain rfl : ad137 = ad138:=(by injection e138)
  have qi138 : (0 < l0.length) = True:=eq_true (by omega);(try rw [show ((0 : Int)).toNat = 0 from rfl] at hx138_0);(try rw [show 0 * 3 = 0 from rfl] at hx138_0);(try rw [Addr.add_zero'] at hx138_0);(try rw [show ((0 : Int)).toNat = 0 from rfl] at hx138_1);(try rw [show 0 * 3 = 0 from rfl] at hx138_1);(try rw [Addr.add_zero'] at hx138_1);(try rw [show ((0 : Int)).toNat = 0 from rfl] at hx138_2);(try rw [show 0 * 3 = 0 from rfl] at hx138_2);(try rw [Addr.add_zero'] at hx138_2);have HR138_2:=am_ hi138_2;have HC138_2:=am_ hl138_2;clear hi138_2 hl138_2;replace p138:=eq_true p138;replace q138:=eq_true q138;have ea_:=Option.some.inj (hx137_2.symm.trans hx138_2)
  injection ea_ with ea_ en_ ec_
  subst ea_;subst ec_;clear en_
  go_enter Try.func20,Try.ntmps20
  go_wp2_with (first|((with_reducible refine gate_callee (f:=40) rfl ?_);refine goesL_ (some 12) rfl rfl Try.func40 (by kernel_rfl) rfl #[.int .i64 a1,.int .i64 0,.int .i64 (wrap64 ((((rd_T29 l0 0).f2).length : Int) - 1))] rfl (by (try simp only [List.map_toArray,List.map_cons,List.map_nil]);first|done|rfl|(simp only [List.length_drop,List.length_take];rfl)) ?_;(with_reducible refine (spec_l00In.calls a1 0 (wrap64 ((((rd_T29 l0 0).f2).length : Int) - 1)) t139 _ A4.out).mono ?_);rintro e w' ⟨rfl,⟨nd,rfl⟩⟩;refine ⟨_,rfl,?_⟩))
  go_ret
  exact ⟨by first|rfl|(simp;done)|(simp [*];done),by repeat (first|exact Drawn0.refl _|apply Drawn0.step)⟩
 · rw [if_neg c3] at H;exact absurd H (by simp)
end Go.Proofs.Ytgpfjmkmopjfbaa.Q
