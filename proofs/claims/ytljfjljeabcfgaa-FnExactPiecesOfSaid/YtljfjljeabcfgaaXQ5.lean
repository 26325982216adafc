-- Trimmed by a program.
import Derived.Test.YtljfjljeabcfgaaXQ0
import Derived.Test.YtljfjljeabcfgaaXQ4
namespace Go.Proofs.Ytljfjljeabcfgaa.Q
open RowKit YtljfjljeabcfgaaW.PrintWords YtljfjljeabcfgaaW.PrintLast YtljfjljeabcfgaaW.PrintMore
attribute [local go_sem] max2_int min2_int max_two min_two max_three min_three max_four min_four
set_option linter.unusedVariables false
set_option linter.unusedSimpArgs false
def spec_l01Ok.f (k : Nat) (l0 : List (S32)) : Option (Bool) := (spec_l01Lay.f k l0).bind fun bt133 => (if bt133.1.length = 144 then (some bt133.2) else (none))
theorem spec_l01Ok.mono : ∀ a0 k, LeO (spec_l01Ok.f k a0) (spec_l01Ok.f (k + 1) a0) := by
 intro a0 k
 unfold spec_l01Ok.f
 repeat' first
   | (with_reducible exact spec_l01Lay.mono _ _)
   | (with_reducible exact LeO.refl _)
   | (with_reducible exact LeO.none _)
   | (with_reducible refine LeO.ite ?_ ?_)
   | (with_reducible refine LeO.bind ?_ (fun _=>?_))
   | exact spec_l01Lay.mono _ _
   | exact LeO.none _
   | refine LeO.ite ?_ ?_
   | refine LeO.bind ?_ (fun _=>?_)
set_option maxHeartbeats 8000000 in
set_option maxRecDepth 100000 in
theorem spec_l01Ok.calls (k : Nat) (A0 : Option Addr) (c0 : Nat) (l0 : List (S32)) (r : Bool) (w : World) (hr0 : Kd.C k32 w A0 l0.length l0) (hc0 : l0.length ≤ c0) (h : spec_l01Ok.f k l0 = some r) :
  Calls Try.prog 14 #[.pointer A0] w fun e w'=>e = .returned (.bool r) ∧ Below w.heap.size w w':=by
 have hu59:=Try.underlying59;have HR0:=am_ hr0;have HC0:=am_ hc0;clear hr0 hc0;have HB:=am_ (Below.refl w.heap.size w);have H : ((spec_l01Lay.f k l0).bind fun bt133=>(if bt133.1.length = 144 then (some bt133.2) else (none))) = some r:=h;clear h;replace H:=Option.bind_eq_some_iff.mp H;obtain ⟨⟨t133,t134⟩,A20,H⟩:=H;replace H : (if t133.length = 144 then (some t134) else (none)) = some r:=H;have A2:=am_ A20;clear A20
 by_cases c3 : t133.length = 144
 ·
  rw [if_pos c3] at H;have c3b0:=eq_true c3;have c3b1 : decide (t133.length = 144) = true:=decide_eq_true c3;clear c3;obtain rfl:=Option.some.inj H
  go_enter Try.func14,Try.ntmps14
  go_wp2_with (first|((with_reducible refine gate_callee (f:=26) rfl ?_);refine goesL_ (some 7) rfl rfl Try.func26 (by kernel_rfl) rfl #[.pointer A0] rfl (by (try simp only [List.map_toArray,List.map_cons,List.map_nil]);first|done|rfl|(simp only [List.length_drop,List.length_take];rfl)) ?_;(with_reducible refine (spec_l01Lay.calls k _ c0 l0 t133 t134 _ ?side1 ?side2 A2.out).mono ?_);(case side1=>repeat (first|exact HR0.out|(with_reducible refine Kd.C_alloc ?_ _)|(with_reducible refine Kd.C_drewN ?_ _)|(with_reducible refine Kd.C_drew ?_)));(case side2=>exact HC0.out);rintro e w4 ⟨rfl,hb⟩;refine ⟨_,rfl,?_⟩;replace HB:=am_ (bT_ (by repeat (first|(with_reducible first|exact HB.out|apply bA_|apply bN_|apply bD_)|exact HB.out)) hb);(try clear hb hb2 hk hi))|((with_reducible refine gate_dst (N:=3) rfl ?_);refine box_event ?hg (N:=3) ?hd (cs:=(arrC .i64 (arrZ 144))) (t:=59) ?hr ?_;(case hd=>rfl);(case hg=>rfl);(case hr=>exact arr_alloc rfl .i64 144 (by kernel_rfl));intro gb135 hg w5 hbox hb;have n0_:=am_ (bT_ (by repeat (first|(with_reducible first|exact HB.out|apply bA_|apply bN_|apply bD_)|exact HB.out)) hb);have n1_:=am_ (hbox);have n2_:=am_ ((by rw [hg];exact (bZ_ (by repeat (first|(with_reducible first|exact HB.out|apply bA_|apply bN_|apply bD_)|exact HB.out))) : w.heap.size≤gb135));have n3_:=n2_;clear HB;have HB:=n0_;have BK135:=n1_;have GW135:=n2_;have GE135:=n3_;clear n0_ n1_ n2_ n3_;clear hb hbox hg)|((with_reducible refine gate_store (t:=59) (p:=3) rfl ?_);refine arr_store (p:=3) (v:=?vv_w6) (n:=144) (k:=.i64) (g:=gb135) (l:=(arrZ 144)) (l2:=t133) ?hg ?hn (t:=59) ?ho ?hp ?hv (by (with_reducible repeat (first|apply kN_|apply kD_|apply kA_));exact BK135.out) (by kernel_rfl) (arrZ_length _) (od_ (by first|(with_reducible assumption)|assumption)) ?_;(case ho=>rfl);(case hg=>rfl);(case hn=>rfl);(case hp=>rfl);(case hv=>rfl);intro w6 hg hx;have n0_:=am_ (hx);have n1_:=am_ (Below.grown (by repeat (first|(with_reducible first|exact HB.out|apply bA_|apply bN_|apply bD_|refine bS_ ?_ GE135.out)|exact HB.out)) hg (bZ_ (by repeat (first|(with_reducible first|exact HB.out|apply bA_|apply bN_|apply bD_|refine bS_ ?_ GE135.out)|exact HB.out))) (fun k_ e_=>by cases e_;exact GE135.out));clear BK135;clear HB;have BK135:=n0_;have HB:=n1_;clear n0_ n1_;clear hg hx))
  go_ret
  exact ⟨by first|rfl|(simp [errW_none,errW_some] <;> rfl)|(simp [*,errW_none,errW_some] <;> rfl),by repeat (first|(with_reducible first|exact HB.out|apply bA_|apply bN_|apply bD_|refine bS_ ?_ GE135.out)|exact HB.out)⟩
 · rw [if_neg c3] at H;exact absurd H (by simp)
end Go.Proofs.Ytljfjljeabcfgaa.Q
