-- By a program of this session's: of the print's words what this claim needs. Lean checks it.
import Derived.Test.YtanpafadehnhlaaXQ0
import Derived.Test.YtanpafadehnhlaaXQ1
import Derived.Test.YtanpafadehnhlaaXQ11
import Derived.Test.YtanpafadehnhlaaXQ15
import Derived.Test.YtanpafadehnhlaaXQ17
namespace Go.Proofs.Ytanpafadehnhlaa.Q
open Go.RowKit Go.Proofs.YtanpafadehnhlaaW.PrintWords Go.Proofs.YtanpafadehnhlaaW.PrintLast Go.Proofs.YtanpafadehnhlaaW.PrintMore
attribute [local go_sem] max2_int min2_int max_two min_two max_three min_three max_four min_four
set_option linter.unusedVariables false
set_option linter.unusedSimpArgs false
def spec_l01Index.f (l0 : List (S30)) (a1 : Int) : Option (Bool) := if 0 < (l0.length : Int) then ((spec_l00In.f a1 0 (wrap64 ((((rd_T30 l0 0).f2).length : Int) - 1))).bind fun t334 => (some t334)) else (none)
set_option maxHeartbeats 8000000 in
set_option maxRecDepth 100000 in
theorem spec_l01Index.calls (A0 : Option Addr) (c0 : Nat) (l0 : List (S30)) (a1 : Int) (r : Bool) (w : World) (hr0 : Kd.C k30 w A0 l0.length l0) (hc0 : l0.length ≤ c0) (h : spec_l01Index.f l0 a1 = some r) :
  Calls Try.prog 66 #[.pointer A0,.int .i64 a1] w fun e w'=>e = .returned (.bool r) ∧ Drawn0 w w':=by
 have HR0:=am_ hr0;have HC0:=am_ hc0;clear hr0 hc0;have H : (if 0 < (l0.length : Int) then ((spec_l00In.f a1 0 (wrap64 ((((rd_T30 l0 0).f2).length : Int) - 1))).bind fun t334=>(some t334)) else (none)) = some r:=h;clear h
 by_cases c3 : 0 < (l0.length : Int)
 ·
  rw [if_pos c3] at H;have c3b0 : decide (0 < (l0.length : Int)) = true:=decide_eq_true c3;have c3b1 : decide (0 < l0.length) = true:=decide_eq_true (by omega);clear c3;replace H:=Option.bind_eq_some_iff.mp H;obtain ⟨t334,A40,H⟩:=H;replace H : (some t334) = some r:=H;have A4:=am_ A40;clear A40;obtain rfl:=Option.some.inj H;have p332 : 0≤(0 : Int):=(by omega)
  have q332 : 0 < (l0.length : Int):=od_ (by first|(with_reducible assumption)|assumption);obtain ⟨ad332,A332_2,c332_2,e332,hx332_0,hx332_1,hx332_2,hl332_2,hi332_2⟩:=at_T30 HR0.out 0 p332 q332
  cases e332
  have qi332 : (0 < l0.length) = True:=eq_true (by omega);(try rw [show ((0 : Int)).toNat = 0 from rfl] at hx332_0);(try rw [show 0 * 3 = 0 from rfl] at hx332_0);(try rw [Addr.add_zero'] at hx332_0);(try rw [show ((0 : Int)).toNat = 0 from rfl] at hx332_1);(try rw [show 0 * 3 = 0 from rfl] at hx332_1);(try rw [Addr.add_zero'] at hx332_1);(try rw [show ((0 : Int)).toNat = 0 from rfl] at hx332_2);(try rw [show 0 * 3 = 0 from rfl] at hx332_2);(try rw [Addr.add_zero'] at hx332_2);have HR332_2:=am_ hi332_2;have HC332_2:=am_ hl332_2;clear hi332_2 hl332_2;replace p332:=eq_true p332;replace q332:=eq_true q332;have p333 : 0≤(0 : Int):=(by omega)
  have q333 : 0 < (l0.length : Int):=od_ (by first|(with_reducible assumption)|assumption);obtain ⟨ad333,A333_2,c333_2,e333,hx333_0,hx333_1,hx333_2,hl333_2,hi333_2⟩:=at_T30 HR0.out 0 p333 q333;obtain rfl : ad332 = ad333:=(by injection e333)
  have qi333 : (0 < l0.length) = True:=eq_true (by omega);(try rw [show ((0 : Int)).toNat = 0 from rfl] at hx333_0);(try rw [show 0 * 3 = 0 from rfl] at hx333_0);(try rw [Addr.add_zero'] at hx333_0);(try rw [show ((0 : Int)).toNat = 0 from rfl] at hx333_1);(try rw [show 0 * 3 = 0 from rfl] at hx333_1);(try rw [Addr.add_zero'] at hx333_1);(try rw [show ((0 : Int)).toNat = 0 from rfl] at hx333_2);(try rw [show 0 * 3 = 0 from rfl] at hx333_2);(try rw [Addr.add_zero'] at hx333_2);have HR333_2:=am_ hi333_2;have HC333_2:=am_ hl333_2;clear hi333_2 hl333_2;replace p333:=eq_true p333;replace q333:=eq_true q333;have ea_:=Option.some.inj (hx332_2.symm.trans hx333_2)
  injection ea_ with ea_ en_ ec_
  subst ea_;subst ec_;clear en_
  go_enter Try.func66,Try.ntmps66
  go_wp2_with (first|((with_reducible refine gate_callee (f:=79) rfl ?_);refine goesL_ (some 12) rfl rfl Try.func79 (by kernel_rfl) rfl #[.int .i64 a1,.int .i64 0,.int .i64 (wrap64 ((((rd_T30 l0 0).f2).length : Int) - 1))] rfl (by (try simp only [List.map_toArray,List.map_cons,List.map_nil]);first|done|rfl|(simp only [List.length_drop,List.length_take];rfl)) ?_;(with_reducible refine (spec_l00In.calls a1 0 (wrap64 ((((rd_T30 l0 0).f2).length : Int) - 1)) t334 _ A4.out).mono ?_);rintro e w' ⟨rfl,⟨nd,rfl⟩⟩;refine ⟨_,rfl,?_⟩))
  go_ret
  exact ⟨by first|rfl|(simp;done)|(simp [*];done),by repeat (first|exact Drawn0.refl _|apply Drawn0.step)⟩
 ·
  rw [if_neg c3] at H;exact absurd H (by simp)
end Go.Proofs.Ytanpafadehnhlaa.Q
