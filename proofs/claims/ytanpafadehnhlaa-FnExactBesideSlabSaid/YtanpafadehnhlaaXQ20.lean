-- By a program of this session's: of the print's words what this claim needs. Lean checks it.
import Derived.Test.YtanpafadehnhlaaXQ0
import Derived.Test.YtanpafadehnhlaaXQ14
import Derived.Test.YtanpafadehnhlaaXQ15
import Derived.Test.YtanpafadehnhlaaXQ18
import Derived.Test.YtanpafadehnhlaaXQ19
import Derived.Test.YtanpafadehnhlaaXQ5
import Derived.Test.YtanpafadehnhlaaXQ9
namespace Go.Proofs.Ytanpafadehnhlaa.Q
open Go.RowKit Go.Proofs.YtanpafadehnhlaaW.PrintWords Go.Proofs.YtanpafadehnhlaaW.PrintLast Go.Proofs.YtanpafadehnhlaaW.PrintMore
attribute [local go_sem] max2_int min2_int max_two min_two max_three min_three max_four min_four
set_option linter.unusedVariables false
set_option linter.unusedSimpArgs false
def spec_BesideSlab.f (k : Nat) (a0_0 : Int) (a0_1 : Int) (l0_2 : List (S38)) (a1 : Int) : Option (List Int × Int) := (spec_l01Index.f [(⟨a0_0, a0_1, l0_2⟩ : S30)] a1).bind fun t362 => ((spec_l01Told.f k [(⟨a0_0, a0_1, l0_2⟩ : S30)] t362).bind fun t363 => (if t363 = 0 then ((spec_l01Beside.f k [(⟨a0_0, a0_1, l0_2⟩ : S30)] a1).bind fun t364 => (some (t364, 0))) else (some ((([] : List Int)), t363))))
theorem spec_BesideSlab.mono : ∀ a0 a1 a2 a3 k, LeO (spec_BesideSlab.f k a0 a1 a2 a3) (spec_BesideSlab.f (k + 1) a0 a1 a2 a3) := by
 intro a0 a1 a2 a3 k
 unfold spec_BesideSlab.f
 repeat' first
   | (with_reducible exact spec_l01Beside.mono _ _ _)
   | (with_reducible exact spec_l01Told.mono _ _ _)
   | (with_reducible exact LeO.refl _)
   | (with_reducible exact LeO.none _)
   | (with_reducible refine LeO.ite ?_ ?_)
   | (with_reducible refine LeO.bind ?_ (fun _=>?_))
   | exact spec_l01Beside.mono _ _ _
   | exact spec_l01Told.mono _ _ _
   | exact LeO.none _
   | refine LeO.ite ?_ ?_
   | refine LeO.bind ?_ (fun _=>?_)
set_option maxHeartbeats 8000000 in
set_option maxRecDepth 100000 in
theorem spec_BesideSlab.calls (k : Nat) (a0_0 : Int) (a0_1 : Int) (A0_2 : Option Addr) (c0_2 : Nat) (l0_2 : List (S38)) (a1 : Int) (r1 : List Int) (r2 : Int) (w : World) (hr0_2 : Kd.C k38 w A0_2 l0_2.length l0_2) (hc0_2 : l0_2.length ≤ c0_2) (h : spec_BesideSlab.f k a0_0 a0_1 l0_2 a1 = some (r1, r2)) :
  Calls Try.prog 33 #[.agg #[.int .i8 a0_0,.int .i8 a0_1,.slice A0_2 l0_2.length c0_2],.int .i64 a1] w fun e w'=>∃ v0_ : Value,e = .returned (.tuple #[v0_,.int .i64 r2]) ∧ Kd.R (Kd.int .i64) 2 w' w.heap.size (fun _=>True) v0_ r1 ∧ Below w.heap.size w w':=by
 have hu30:=Try.underlying30;have HR0_2:=am_ hr0_2;have HC0_2:=am_ hc0_2;clear hr0_2 hc0_2;have HB:=am_ (Below.refl w.heap.size w);have H : ((spec_l01Index.f [(⟨a0_0,a0_1,l0_2⟩ : S30)] a1).bind fun t362=>((spec_l01Told.f k [(⟨a0_0,a0_1,l0_2⟩ : S30)] t362).bind fun t363=>(if t363 = 0 then ((spec_l01Beside.f k [(⟨a0_0,a0_1,l0_2⟩ : S30)] a1).bind fun t364=>(some (t364,0))) else (some ((([] : List Int)),t363))))) = some (r1,r2):=h;clear h;replace H:=Option.bind_eq_some_iff.mp H;obtain ⟨t362,A30,H⟩:=H;replace H : ((spec_l01Told.f k [(⟨a0_0,a0_1,l0_2⟩ : S30)] t362).bind fun t363=>(if t363 = 0 then ((spec_l01Beside.f k [(⟨a0_0,a0_1,l0_2⟩ : S30)] a1).bind fun t364=>(some (t364,0))) else (some ((([] : List Int)),t363)))) = some (r1,r2):=H;have A3:=am_ A30;clear A30;replace H:=Option.bind_eq_some_iff.mp H;obtain ⟨t363,A40,H⟩:=H;replace H : (if t363 = 0 then ((spec_l01Beside.f k [(⟨a0_0,a0_1,l0_2⟩ : S30)] a1).bind fun t364=>(some (t364,0))) else (some ((([] : List Int)),t363))) = some (r1,r2):=H;have A4:=am_ A40;clear A40
 by_cases c5 : t363 = 0
 ·
  rw [if_pos c5] at H;have c5b0 : (t363 == 0) = true:=beq_iff_eq.mpr c5;have c5b1 : (t363 != 0) = false:=bne_eq_false_iff_eq.mpr c5;clear c5;replace H:=Option.bind_eq_some_iff.mp H;obtain ⟨t364,A60,H⟩:=H;replace H : (some (t364,0)) = some (r1,r2):=H;have A6:=am_ A60;clear A60;simp only [Option.some.injEq,Prod.mk.injEq] at H;obtain ⟨rfl,rfl⟩:=H
  go_enter Try.func33,Try.ntmps33
  go_wp2_with (first|((with_reducible refine gate_dst (N:=2) rfl ?_);refine box_event ?hg (N:=2) ?hd (cs:=#[.int .i8 a0_0,.int .i8 a0_1,.slice A0_2 l0_2.length c0_2]) (t:=30) ?hr ?_;(case hd=>rfl);(case hg=>rfl);(case hr=>first|(go_simp;done)|(go_simp;rfl));intro gb361 hg w7 hbox hb;have n0_:=am_ (bT_ (by repeat (first|(with_reducible first|exact HB.out|apply bA_|apply bN_|apply bD_)|exact HB.out)) hb);have n1_:=am_ (hbox);have n2_:=am_ ((by rw [hg];exact (below_size (by repeat (first|(with_reducible first|exact HB.out|apply bA_|apply bN_|apply bD_)|exact HB.out))) : w.heap.size≤gb361));have n3_:=n2_;clear HB;have HB:=n0_;have BK361:=n1_;have GW361:=n2_;have GE361:=n3_;clear n0_ n1_ n2_ n3_;clear hb hbox hg)|((with_reducible refine gate_callee (f:=66) rfl ?_);refine goesL_ (some 8) rfl rfl Try.func66 (by kernel_rfl) rfl #[.pointer (some ⟨gb361,0,none⟩),.int .i64 a1] rfl (by (try simp only [List.map_toArray,List.map_cons,List.map_nil]);first|done|rfl|(simp only [List.length_drop,List.length_take];rfl)) ?_;(with_reducible refine (spec_l01Index.calls _ 1 [(⟨a0_0,a0_1,l0_2⟩ : S30)] a1 t362 _ ?side1 ?side2 A3.out).mono ?_);(case side1=>exact Kd.C_one_ (by (with_reducible repeat (first|apply kN_|apply kD_|apply kA_));exact BK361.out) (k30_mk _ _ (by exact HC0_2.out) (by repeat (first|exact (Kd.C_below HR0_2.out HB.out)|(with_reducible refine Kd.C_alloc ?_ _)|(with_reducible refine Kd.C_drewN ?_ _)|(with_reducible refine Kd.C_drew ?_)))));(case side2=>exact Nat.le_refl _);rintro e w' ⟨rfl,⟨nd,rfl⟩⟩;refine ⟨_,rfl,?_⟩)|((with_reducible refine gate_callee (f:=53) rfl ?_);refine goesL_ (some 9) rfl rfl Try.func53 (by kernel_rfl) rfl #[.pointer (some ⟨gb361,0,none⟩),.bool t362] rfl (by (try simp only [List.map_toArray,List.map_cons,List.map_nil]);first|done|rfl|(simp only [List.length_drop,List.length_take];rfl)) ?_;(with_reducible refine (spec_l01Told.calls k _ 1 [(⟨a0_0,a0_1,l0_2⟩ : S30)] t362 t363 _ ?side1 ?side2 A4.out).mono ?_);(case side1=>exact Kd.C_one_ (by (with_reducible repeat (first|apply kN_|apply kD_|apply kA_));exact BK361.out) (k30_mk _ _ (by exact HC0_2.out) (by repeat (first|exact (Kd.C_below HR0_2.out (by repeat (first|(with_reducible first|exact HB.out|apply bA_|apply bN_|apply bD_|refine bS_ ?_ GE361.out)|exact HB.out)))|(with_reducible refine Kd.C_alloc ?_ _)|(with_reducible refine Kd.C_drewN ?_ _)|(with_reducible refine Kd.C_drew ?_)))));(case side2=>exact Nat.le_refl _);rintro e w8 ⟨rfl,hb⟩;refine ⟨_,rfl,?_⟩;have n0_:=am_ (blk_below (g:=gb361) (o:=.cells #[.int .i8 a0_0,.int .i8 a0_1,.slice A0_2 l0_2.length c0_2] 30 (0,0)) (by (with_reducible repeat (first|apply kN_|apply kD_|apply kA_));exact BK361.out) hb);have n1_:=am_ (bT_ (by repeat (first|(with_reducible first|exact HB.out|apply bA_|apply bN_|apply bD_|refine bS_ ?_ GE361.out)|exact HB.out)) hb);clear BK361;clear HB;have BK361:=n0_;have HB:=n1_;clear n0_ n1_;(try clear hb);(try clear hb2);(try clear hk);(try clear hi))|((with_reducible refine gate_callee (f:=67) rfl ?_);refine goesL_ (some 15) rfl rfl Try.func67 (by kernel_rfl) rfl #[.pointer (some ⟨gb361,0,none⟩),.int .i64 a1] rfl (by (try simp only [List.map_toArray,List.map_cons,List.map_nil]);first|done|rfl|(simp only [List.length_drop,List.length_take];rfl)) ?_;(with_reducible refine (spec_l01Beside.calls k _ 1 [(⟨a0_0,a0_1,l0_2⟩ : S30)] a1 t364 _ ?side1 ?side2 A6.out).mono ?_);(case side1=>exact Kd.C_one_ (by (with_reducible repeat (first|apply kN_|apply kD_|apply kA_));exact BK361.out) (k30_mk _ _ (by exact HC0_2.out) (by repeat (first|exact (Kd.C_below HR0_2.out HB.out)|(with_reducible refine Kd.C_alloc ?_ _)|(with_reducible refine Kd.C_drewN ?_ _)|(with_reducible refine Kd.C_drew ?_)))));(case side2=>exact Nat.le_refl _);rintro e w9 ⟨v365,rfl,ho0,hb⟩;refine ⟨_,rfl,?_⟩;have n0_:=am_ (Kd.R_lower ho0 (below_size (by repeat (first|(with_reducible first|exact HB.out|apply bA_|apply bN_|apply bD_|refine bS_ ?_ GE361.out)|exact HB.out))));have n1_:=am_ (blk_below (g:=gb361) (o:=.cells #[.int .i8 a0_0,.int .i8 a0_1,.slice A0_2 l0_2.length c0_2] 30 (0,0)) (by (with_reducible repeat (first|apply kN_|apply kD_|apply kA_));exact BK361.out) hb);have n2_:=am_ (bT_ (by repeat (first|(with_reducible first|exact HB.out|apply bA_|apply bN_|apply bD_|refine bS_ ?_ GE361.out)|exact HB.out)) hb);clear BK361;clear HB;have HO366:=n0_;have BK361:=n1_;have HB:=n2_;clear n0_ n1_ n2_;(try clear hb);(try clear hb2);(try clear hk);(try clear hi);(try clear ho0)))
  go_ret2
  exact ⟨_,by first|rfl|(simp [errW_none,errW_some] <;> rfl)|(simp [*,errW_none,errW_some] <;> rfl),by (with_reducible repeat (first|apply Kd.R_alloc|apply Kd.R_drewN|apply Kd.R_drew));exact HO366.out,by repeat (first|(with_reducible first|exact HB.out|apply bA_|apply bN_|apply bD_|refine bS_ ?_ GE361.out)|exact HB.out)⟩
 ·
  rw [if_neg c5] at H;have c5b0 : (t363 == 0) = false:=beq_eq_false_iff_ne.mpr c5;have c5b1 : (t363 != 0) = true:=bne_iff_ne.mpr c5;obtain ⟨y367,hy367⟩ : ∃ y_ : List Int,y_ = (([] : List Int)):=⟨_,rfl⟩
  replace H : (some (y367,t363)) = some (r1,r2):=by first|(rw [hy367];with_reducible exact H)|(have H2_:=(Option.bind_some _ _).symm.trans H;rw [hy367];with_reducible exact H2_)|(have H2_:=(Option.bind_some _ _).symm.trans H;with_reducible exact H2_)|with_reducible exact H|(rw [hy367];exact H)|exact H
  have Ny367:=am_ hy367;clear hy367;simp only [Option.some.injEq,Prod.mk.injEq] at H;obtain ⟨rfl,rfl⟩:=H
  go_enter Try.func33,Try.ntmps33
  go_wp2_with (first|((with_reducible refine gate_dst (N:=2) rfl ?_);refine box_event ?hg (N:=2) ?hd (cs:=#[.int .i8 a0_0,.int .i8 a0_1,.slice A0_2 l0_2.length c0_2]) (t:=30) ?hr ?_;(case hd=>rfl);(case hg=>rfl);(case hr=>first|(go_simp;done)|(go_simp;rfl));intro gb361 hg w10 hbox hb;have n0_:=am_ (bT_ (by repeat (first|(with_reducible first|exact HB.out|apply bA_|apply bN_|apply bD_)|exact HB.out)) hb);have n1_:=am_ (hbox);have n2_:=am_ ((by rw [hg];exact (below_size (by repeat (first|(with_reducible first|exact HB.out|apply bA_|apply bN_|apply bD_)|exact HB.out))) : w.heap.size≤gb361));have n3_:=n2_;clear HB;have HB:=n0_;have BK361:=n1_;have GW361:=n2_;have GE361:=n3_;clear n0_ n1_ n2_ n3_;clear hb hbox hg)|((with_reducible refine gate_callee (f:=66) rfl ?_);refine goesL_ (some 8) rfl rfl Try.func66 (by kernel_rfl) rfl #[.pointer (some ⟨gb361,0,none⟩),.int .i64 a1] rfl (by (try simp only [List.map_toArray,List.map_cons,List.map_nil]);first|done|rfl|(simp only [List.length_drop,List.length_take];rfl)) ?_;(with_reducible refine (spec_l01Index.calls _ 1 [(⟨a0_0,a0_1,l0_2⟩ : S30)] a1 t362 _ ?side1 ?side2 A3.out).mono ?_);(case side1=>exact Kd.C_one_ (by (with_reducible repeat (first|apply kN_|apply kD_|apply kA_));exact BK361.out) (k30_mk _ _ (by exact HC0_2.out) (by repeat (first|exact (Kd.C_below HR0_2.out HB.out)|(with_reducible refine Kd.C_alloc ?_ _)|(with_reducible refine Kd.C_drewN ?_ _)|(with_reducible refine Kd.C_drew ?_)))));(case side2=>exact Nat.le_refl _);rintro e w' ⟨rfl,⟨nd,rfl⟩⟩;refine ⟨_,rfl,?_⟩)|((with_reducible refine gate_callee (f:=53) rfl ?_);refine goesL_ (some 9) rfl rfl Try.func53 (by kernel_rfl) rfl #[.pointer (some ⟨gb361,0,none⟩),.bool t362] rfl (by (try simp only [List.map_toArray,List.map_cons,List.map_nil]);first|done|rfl|(simp only [List.length_drop,List.length_take];rfl)) ?_;(with_reducible refine (spec_l01Told.calls k _ 1 [(⟨a0_0,a0_1,l0_2⟩ : S30)] t362 t363 _ ?side1 ?side2 A4.out).mono ?_);(case side1=>exact Kd.C_one_ (by (with_reducible repeat (first|apply kN_|apply kD_|apply kA_));exact BK361.out) (k30_mk _ _ (by exact HC0_2.out) (by repeat (first|exact (Kd.C_below HR0_2.out (by repeat (first|(with_reducible first|exact HB.out|apply bA_|apply bN_|apply bD_|refine bS_ ?_ GE361.out)|exact HB.out)))|(with_reducible refine Kd.C_alloc ?_ _)|(with_reducible refine Kd.C_drewN ?_ _)|(with_reducible refine Kd.C_drew ?_)))));(case side2=>exact Nat.le_refl _);rintro e w11 ⟨rfl,hb⟩;refine ⟨_,rfl,?_⟩;have n0_:=am_ (blk_below (g:=gb361) (o:=.cells #[.int .i8 a0_0,.int .i8 a0_1,.slice A0_2 l0_2.length c0_2] 30 (0,0)) (by (with_reducible repeat (first|apply kN_|apply kD_|apply kA_));exact BK361.out) hb);have n1_:=am_ (bT_ (by repeat (first|(with_reducible first|exact HB.out|apply bA_|apply bN_|apply bD_|refine bS_ ?_ GE361.out)|exact HB.out)) hb);clear BK361;clear HB;have BK361:=n0_;have HB:=n1_;clear n0_ n1_;(try clear hb);(try clear hb2);(try clear hk);(try clear hi))|((with_reducible refine gate_dst (N:=12) rfl ?_);refine Kd.R_lit (Kd.int .i64) _ 2 ?hg (N:=12) ?hd (xs:=([] : List Int)) (inner:=[]) (ok:=fun _=>True) (okp:=fun _=>True) ?hr ?hp (fun _ hk=>hk) trivial (Below.refl _ _) (Nat.le_refl _) (by simp) ?_;(case hd=>rfl);(case hg=>rfl);(case hr=>first|(go_simp;done)|(go_simp;rfl));(case hp=>exact (Reps.none _ _));intro v368 w12 ho13 hb hg_ hnew_;clear hg_ hnew_;(first|rw [← Ny367.out] at ho13|(simp only [Int.reduceToNat] at ho13;rw [← Ny367.out] at ho13));have n0_:=am_ (Kd.R_lower ho13 (below_size (by repeat (first|(with_reducible first|exact HB.out|apply bA_|apply bN_|apply bD_|refine bS_ ?_ GE361.out)|exact HB.out))));have n1_:=am_ (blk_below (g:=gb361) (o:=.cells #[.int .i8 a0_0,.int .i8 a0_1,.slice A0_2 l0_2.length c0_2] 30 (0,0)) (by (with_reducible repeat (first|apply kN_|apply kD_|apply kA_));exact BK361.out) hb);have n2_:=am_ (bT_ (by repeat (first|(with_reducible first|exact HB.out|apply bA_|apply bN_|apply bD_|refine bS_ ?_ GE361.out)|exact HB.out)) hb);clear BK361;clear HB;have HO369:=n0_;have BK361:=n1_;have HB:=n2_;clear n0_ n1_ n2_;clear hb ho13))
  go_ret2
  exact ⟨_,by first|rfl|(simp [errW_none,errW_some] <;> rfl)|(simp [*,errW_none,errW_some] <;> rfl),by (with_reducible repeat (first|apply Kd.R_alloc|apply Kd.R_drewN|apply Kd.R_drew));exact HO369.out,by repeat (first|(with_reducible first|exact HB.out|apply bA_|apply bN_|apply bD_|refine bS_ ?_ GE361.out)|exact HB.out)⟩
def impl_Slab.f (l0 : List (S38)) : Option (Int) := some (l0.length : Int)
set_option maxHeartbeats 8000000 in
set_option maxRecDepth 100000 in
theorem impl_Slab.calls (A0 : Option Addr) (c0 : Nat) (l0 : List (S38)) (r : Int) (w : World) (hr0 : Kd.C k38 w A0 l0.length l0) (hc0 : l0.length ≤ c0) (h : impl_Slab.f l0 = some r) :
  Calls Try.prog 90 #[.slice A0 l0.length c0] w fun e w'=>e = .returned (.int .i64 r) ∧ Drawn0 w w':=by
 have HR0:=am_ hr0;have HC0:=am_ hc0;clear hr0 hc0;have H : (some (l0.length : Int)) = some r:=h;clear h;obtain rfl:=Option.some.inj H
 go_enter Try.func90,Try.ntmps90
 go_wp2
 go_ret
 exact ⟨by first|rfl|(simp;done)|(simp [*];done),by repeat (first|exact Drawn0.refl _|apply Drawn0.step)⟩
def impl_indexCode_1.f (a0 : Int) (l1 : List (S30)) : Option (Bool) := if 0 < (l1.length : Int) then ((impl_Slab.f ((rd_T30 l1 0).f2)).bind fun t373 => ((impl_within.f a0 0 (wrap64 (t373 - 1))).bind fun t374 => (some (!t374)))) else (none)
set_option maxHeartbeats 8000000 in
set_option maxRecDepth 100000 in
theorem impl_indexCode_1.calls (a0 : Int) (A1 : Option Addr) (c1 : Nat) (l1 : List (S30)) (r : Bool) (w : World) (hr1 : Kd.C k30 w A1 l1.length l1) (hc1 : l1.length ≤ c1) (h : impl_indexCode_1.f a0 l1 = some r) :
  Calls Try.prog 89 #[.int .i64 a0,.pointer A1] w fun e w'=>e = .returned (.bool r) ∧ Drawn0 w w':=by
 have HR1:=am_ hr1;have HC1:=am_ hc1;clear hr1 hc1;have H : (if 0 < (l1.length : Int) then ((impl_Slab.f ((rd_T30 l1 0).f2)).bind fun t373=>((impl_within.f a0 0 (wrap64 (t373 - 1))).bind fun t374=>(some (!t374)))) else (none)) = some r:=h;clear h
 by_cases c3 : 0 < (l1.length : Int)
 ·
  rw [if_pos c3] at H;have c3b0 : decide (0 < (l1.length : Int)) = true:=decide_eq_true c3;have c3b1 : decide (0 < l1.length) = true:=decide_eq_true (by omega);clear c3;replace H:=Option.bind_eq_some_iff.mp H;obtain ⟨t373,A40,H⟩:=H;replace H : ((impl_within.f a0 0 (wrap64 (t373 - 1))).bind fun t374=>(some (!t374))) = some r:=H;have A4:=am_ A40;clear A40;replace H:=Option.bind_eq_some_iff.mp H;obtain ⟨t374,A50,H⟩:=H;replace H : (some (!t374)) = some r:=H;have A5:=am_ A50;clear A50;obtain rfl:=Option.some.inj H;have p372 : 0≤(0 : Int):=(by omega)
  have q372 : 0 < (l1.length : Int):=od_ (by first|(with_reducible assumption)|assumption);obtain ⟨ad372,A372_2,c372_2,e372,hx372_0,hx372_1,hx372_2,hl372_2,hi372_2⟩:=at_T30 HR1.out 0 p372 q372
  cases e372
  have qi372 : (0 < l1.length) = True:=eq_true (by omega);(try rw [show ((0 : Int)).toNat = 0 from rfl] at hx372_0);(try rw [show 0 * 3 = 0 from rfl] at hx372_0);(try rw [Addr.add_zero'] at hx372_0);(try rw [show ((0 : Int)).toNat = 0 from rfl] at hx372_1);(try rw [show 0 * 3 = 0 from rfl] at hx372_1);(try rw [Addr.add_zero'] at hx372_1);(try rw [show ((0 : Int)).toNat = 0 from rfl] at hx372_2);(try rw [show 0 * 3 = 0 from rfl] at hx372_2);(try rw [Addr.add_zero'] at hx372_2);have HR372_2:=am_ hi372_2;have HC372_2:=am_ hl372_2;clear hi372_2 hl372_2;replace p372:=eq_true p372;replace q372:=eq_true q372
  go_enter Try.func89,Try.ntmps89
  go_wp2_with (first|((with_reducible refine gate_callee (f:=90) rfl ?_);refine goesL_ (some 7) rfl rfl Try.func90 (by kernel_rfl) rfl #[.slice A372_2 ((rd_T30 l1 0).f2).length c372_2] rfl (by (try simp only [List.map_toArray,List.map_cons,List.map_nil]);first|done|rfl|(simp only [List.length_drop,List.length_take];rfl)) ?_;(with_reducible refine (impl_Slab.calls _ _ ((rd_T30 l1 0).f2) t373 _ ?side1 ?side2 A4.out).mono ?_);(case side1=>repeat (first|exact HR372_2.out|(with_reducible refine Kd.C_alloc ?_ _)|(with_reducible refine Kd.C_drewN ?_ _)|(with_reducible refine Kd.C_drew ?_)));(case side2=>exact HC372_2.out);rintro e w' ⟨rfl,⟨nd,rfl⟩⟩;refine ⟨_,rfl,?_⟩)|((with_reducible refine gate_callee (f:=74) rfl ?_);refine goesL_ (some 9) rfl rfl Try.func74 (by kernel_rfl) rfl #[.int .i64 a0,.int .i64 0,.int .i64 (wrap64 (t373 - 1))] rfl (by (try simp only [List.map_toArray,List.map_cons,List.map_nil]);first|done|rfl|(simp only [List.length_drop,List.length_take];rfl)) ?_;(with_reducible refine (impl_within.calls a0 0 (wrap64 (t373 - 1)) t374 _ A5.out).mono ?_);rintro e w' ⟨rfl,⟨nd,rfl⟩⟩;refine ⟨_,rfl,?_⟩))
  go_ret
  exact ⟨by first|rfl|(simp;done)|(simp [*];done),by repeat (first|exact Drawn0.refl _|apply Drawn0.step)⟩
 ·
  rw [if_neg c3] at H;exact absurd H (by simp)
def slices_IndexFunc_int64_int64_at_impl_indexCode_1.l0 : Nat → List Int → Int → Int → List (S30) → Option (Int)
 | 0,_,_,_,_=>none
 | k + 1,x0,x7,x8,x2000=>if x8 < x7 then (if 0≤x8 then (if x8 < (x0.length : Int) then ((impl_indexCode_1.f (rd x0 x8) x2000).bind fun t376=>(if t376 = true then (some x8) else (slices_IndexFunc_int64_int64_at_impl_indexCode_1.l0 k x0 x7 (wrap64 (x8 + 1)) x2000))) else (none)) else (none)) else (some (-1))
def slices_IndexFunc_int64_int64_at_impl_indexCode_1.f (k : Nat) (l0 : List Int) (l1_0 : List (S30)) : Option (Int) := slices_IndexFunc_int64_int64_at_impl_indexCode_1.l0 k l0 (l0.length : Int) 0 l1_0
theorem slices_IndexFunc_int64_int64_at_impl_indexCode_1.mono_l : ∀ k, (∀ y0 y1 y2 y3, LeO (slices_IndexFunc_int64_int64_at_impl_indexCode_1.l0 k y0 y1 y2 y3) (slices_IndexFunc_int64_int64_at_impl_indexCode_1.l0 (k + 1) y0 y1 y2 y3))
 | 0=>fun _ _ _ _ r h=>by simp [slices_IndexFunc_int64_int64_at_impl_indexCode_1.l0] at h
 | k + 1=>by
  have ih0:=slices_IndexFunc_int64_int64_at_impl_indexCode_1.mono_l k
  ·
   intro y0 y1 y2 y3
   unfold slices_IndexFunc_int64_int64_at_impl_indexCode_1.l0
   repeat' first
   | (with_reducible exact ih0 _ _ _ _)
   | (with_reducible exact LeO.refl _)
   | (with_reducible exact LeO.none _)
   | (with_reducible refine LeO.ite ?_ ?_)
   | (with_reducible refine LeO.bind ?_ (fun _=>?_))
   | exact ih0 _ _ _ _
   | exact LeO.none _
   | refine LeO.ite ?_ ?_
   | refine LeO.bind ?_ (fun _=>?_)
theorem slices_IndexFunc_int64_int64_at_impl_indexCode_1.mono : ∀ a0 a1 k, LeO (slices_IndexFunc_int64_int64_at_impl_indexCode_1.f k a0 a1) (slices_IndexFunc_int64_int64_at_impl_indexCode_1.f (k + 1) a0 a1) := by
 intro a0 a1 k;have ih0:=slices_IndexFunc_int64_int64_at_impl_indexCode_1.mono_l k
 unfold slices_IndexFunc_int64_int64_at_impl_indexCode_1.f
 repeat' first
   | (with_reducible exact ih0 _ _ _ _)
   | (with_reducible exact LeO.refl _)
   | (with_reducible exact LeO.none _)
   | (with_reducible refine LeO.ite ?_ ?_)
   | (with_reducible refine LeO.bind ?_ (fun _=>?_))
   | exact ih0 _ _ _ _
   | exact LeO.none _
   | refine LeO.ite ?_ ?_
   | refine LeO.bind ?_ (fun _=>?_)
set_option maxHeartbeats 8000000 in
set_option maxRecDepth 100000 in
theorem slices_IndexFunc_int64_int64_at_impl_indexCode_1.calls (k : Nat) (A0 : Option Addr) (c0 : Nat) (l0 : List Int) (A1_0 : Option Addr) (c1_0 : Nat) (l1_0 : List (S30)) (r : Int) (w : World) (hr0 : Kd.C (Kd.int .i64) w A0 l0.length l0) (hc0 : l0.length ≤ c0) (hr1_0 : Kd.C k30 w A1_0 l1_0.length l1_0) (hc1_0 : l1_0.length ≤ c1_0) (h : slices_IndexFunc_int64_int64_at_impl_indexCode_1.f k l0 l1_0 = some r) :
  Calls Try.prog 97 #[.slice A0 l0.length c0,.func (.func 89) #[] #[.pointer A1_0]] w fun e w'=>e = .returned (.int .i64 r) ∧ Drawn0 w w':=by
 have HR0:=am_ hr0;have HC0:=am_ hc0;clear hr0 hc0;have HR1_0:=am_ hr1_0;have HC1_0:=am_ hc1_0;clear hr1_0 hc1_0;have H : (slices_IndexFunc_int64_int64_at_impl_indexCode_1.l0 k l0 (l0.length : Int) 0 l1_0) = some r:=h;clear h;have H':=am_ H;clear H
 go_enter Try.func97,Try.ntmps97
 go_wp2
 go_loopg [8] k (fun kq v8 w'=>∃ (x8_1 : Int),v8 = .int .i64 x8_1 ∧ Aside0 (slices_IndexFunc_int64_int64_at_impl_indexCode_1.l0 kq l0 (l0.length : Int) x8_1 l1_0 = some r) ∧ Aside0 (kq≤k) ∧ Drawn0 w w')
 case atStart=>exact ⟨(0),(by first|rfl|(simp;done)|(simp [*];done)),H',⟨Nat.le_refl _⟩,by repeat (first|exact Drawn0.refl _|apply Drawn0.step)⟩
 case round =>
  clear H';(try clear c1);(try clear p2);obtain ⟨x8_1,rfl,HA,HK1,⟨m1,rfl⟩⟩:=hrel
  cases gk with
  | zero=>exact absurd HA.out (by simp [slices_IndexFunc_int64_int64_at_impl_indexCode_1.l0])
  | succ k1 =>
   have H:=HA.out;clear HA;simp only [slices_IndexFunc_int64_int64_at_impl_indexCode_1.l0] at H
   by_cases c3 : x8_1 < (l0.length : Int)
   ·
    rw [if_pos c3] at H;have c3b0 : decide (x8_1 < (l0.length : Int)) = true:=decide_eq_true c3;clear c3
    by_cases c4 : 0≤x8_1
    ·
     rw [if_pos c4] at H;have c4b0 : decide (0≤x8_1) = true:=decide_eq_true c4;clear c4
     by_cases c5 : x8_1 < (l0.length : Int)
     ·
      rw [if_pos c5] at H;have c5b0 : decide (x8_1 < (l0.length : Int)) = true:=decide_eq_true c5;clear c5;replace H:=Option.bind_eq_some_iff.mp H;obtain ⟨t376,A60,H⟩:=H;replace H : (if t376 = true then (some x8_1) else (slices_IndexFunc_int64_int64_at_impl_indexCode_1.l0 k1 l0 (l0.length : Int) (wrap64 (x8_1 + 1)) l1_0)) = some r:=H;have A6:=am_ A60;clear A60
      by_cases c7 : t376 = true
      ·
       subst c7;have H1 : (some x8_1) = some r:=by rw [if_pos rfl] at H;exact H
       clear H;have H:=H1;clear H1;obtain rfl:=Option.some.inj H;have p375 : 0≤(x8_1 : Int):=od_ (by first|(with_reducible assumption)|assumption);have q375 : x8_1 < (l0.length : Int):=od_ (by first|(with_reducible assumption)|assumption);obtain ⟨ad375,e375,hx375_0⟩:=Kd.at_int HR0.out x8_1 p375 q375
       cases e375
       replace p375:=eq_true p375;replace q375:=eq_true q375
       go_wp2_with (first|(go_at_call 89;(with_reducible refine (impl_indexCode_1.calls (rd l0 x8_1) _ c1_0 l1_0 true _ ?side1 ?side2 A6.out).mono ?_);(case side1=>repeat (first|exact HR1_0.out|(with_reducible refine Kd.C_alloc ?_ _)|(with_reducible refine Kd.C_drewN ?_ _)|(with_reducible refine Kd.C_drew ?_)));(case side2=>exact HC1_0.out);rintro e w' ⟨rfl,⟨nd,rfl⟩⟩))
       go_ret
       exact ⟨by first|rfl|(simp;done)|(simp [*];done),by repeat (first|exact Drawn0.refl _|apply Drawn0.step)⟩
      ·
       replace c7:=Bool.eq_false_iff.mpr c7;subst c7;have H1 : (slices_IndexFunc_int64_int64_at_impl_indexCode_1.l0 k1 l0 (l0.length : Int) (wrap64 (x8_1 + 1)) l1_0) = some r:=by rw [if_neg (show ¬ (false = true) by decide)] at H;exact H
       clear H;have H:=H1;clear H1;have H':=am_ H;clear H;have p375 : 0≤(x8_1 : Int):=od_ (by first|(with_reducible assumption)|assumption);have q375 : x8_1 < (l0.length : Int):=od_ (by first|(with_reducible assumption)|assumption);obtain ⟨ad375,e375,hx375_0⟩:=Kd.at_int HR0.out x8_1 p375 q375
       cases e375
       replace p375:=eq_true p375;replace q375:=eq_true q375
       go_wp2_with (first|(go_at_call 89;(with_reducible refine (impl_indexCode_1.calls (rd l0 x8_1) _ c1_0 l1_0 false _ ?side1 ?side2 A6.out).mono ?_);(case side1=>repeat (first|exact HR1_0.out|(with_reducible refine Kd.C_alloc ?_ _)|(with_reducible refine Kd.C_drewN ?_ _)|(with_reducible refine Kd.C_drew ?_)));(case side2=>exact HC1_0.out);rintro e w' ⟨rfl,⟨nd,rfl⟩⟩))
       go_roundg k1
       case measure=>have:=HK1.out;omega
       case rel=>exact ⟨(wrap64 (x8_1 + 1)),(by first|rfl|(simp;done)|(simp [*];done)),H',⟨by have:=HK1.out;omega⟩,by repeat (first|exact Drawn0.refl _|apply Drawn0.step)⟩
     ·
      rw [if_neg c5] at H;exact absurd H (by simp)
    ·
     rw [if_neg c4] at H;exact absurd H (by simp)
   ·
    rw [if_neg c3] at H;have c3b0 : decide (x8_1 < (l0.length : Int)) = false:=decide_eq_false c3;clear c3;obtain rfl:=Option.some.inj H
    go_wp2
    go_ret
    exact ⟨by first|rfl|(simp;done)|(simp [*];done),by repeat (first|exact Drawn0.refl _|apply Drawn0.step)⟩
def slices_ContainsFunc_int64_int64_at_impl_indexCode_1.f (k : Nat) (l0 : List Int) (l1_0 : List (S30)) : Option (Bool) := (slices_IndexFunc_int64_int64_at_impl_indexCode_1.f k l0 l1_0).bind fun t377 => (some (decide (t377 ≥ 0)))
theorem slices_ContainsFunc_int64_int64_at_impl_indexCode_1.mono : ∀ a0 a1 k, LeO (slices_ContainsFunc_int64_int64_at_impl_indexCode_1.f k a0 a1) (slices_ContainsFunc_int64_int64_at_impl_indexCode_1.f (k + 1) a0 a1) := by
 intro a0 a1 k
 unfold slices_ContainsFunc_int64_int64_at_impl_indexCode_1.f
 repeat' first
   | (with_reducible exact slices_IndexFunc_int64_int64_at_impl_indexCode_1.mono _ _ _)
   | (with_reducible exact LeO.refl _)
   | (with_reducible exact LeO.none _)
   | (with_reducible refine LeO.ite ?_ ?_)
   | (with_reducible refine LeO.bind ?_ (fun _=>?_))
   | exact slices_IndexFunc_int64_int64_at_impl_indexCode_1.mono _ _ _
   | exact LeO.none _
   | refine LeO.ite ?_ ?_
   | refine LeO.bind ?_ (fun _=>?_)
set_option maxHeartbeats 8000000 in
set_option maxRecDepth 100000 in
theorem slices_ContainsFunc_int64_int64_at_impl_indexCode_1.calls (k : Nat) (A0 : Option Addr) (c0 : Nat) (l0 : List Int) (A1_0 : Option Addr) (c1_0 : Nat) (l1_0 : List (S30)) (r : Bool) (w : World) (hr0 : Kd.C (Kd.int .i64) w A0 l0.length l0) (hc0 : l0.length ≤ c0) (hr1_0 : Kd.C k30 w A1_0 l1_0.length l1_0) (hc1_0 : l1_0.length ≤ c1_0) (h : slices_ContainsFunc_int64_int64_at_impl_indexCode_1.f k l0 l1_0 = some r) :
  Calls Try.prog 88 #[.slice A0 l0.length c0,.func (.func 89) #[] #[.pointer A1_0]] w fun e w'=>e = .returned (.bool r) ∧ Drawn0 w w':=by
 have HR0:=am_ hr0;have HC0:=am_ hc0;clear hr0 hc0;have HR1_0:=am_ hr1_0;have HC1_0:=am_ hc1_0;clear hr1_0 hc1_0;have H : ((slices_IndexFunc_int64_int64_at_impl_indexCode_1.f k l0 l1_0).bind fun t377=>(some (decide (t377 ≥ 0)))) = some r:=h;clear h;replace H:=Option.bind_eq_some_iff.mp H;obtain ⟨t377,A30,H⟩:=H;replace H : (some (decide (t377 ≥ 0))) = some r:=H;have A3:=am_ A30;clear A30;obtain rfl:=Option.some.inj H
 go_enter Try.func88,Try.ntmps88
 go_wp2_with (first|((with_reducible refine gate_callee (f:=97) rfl ?_);refine goesL_ (some 7) rfl rfl Try.func97 (by kernel_rfl) rfl #[.slice A0 l0.length c0,.func (.func 89) #[] #[.pointer A1_0]] rfl (by (try simp only [List.map_toArray,List.map_cons,List.map_nil]);first|done|rfl|(simp only [List.length_drop,List.length_take];rfl)) ?_;(with_reducible refine (slices_IndexFunc_int64_int64_at_impl_indexCode_1.calls k _ _ l0 _ c1_0 l1_0 t377 _ ?side1 ?side2 ?side3 ?side4 A3.out).mono ?_);(case side1=>repeat (first|exact HR0.out|(with_reducible refine Kd.C_alloc ?_ _)|(with_reducible refine Kd.C_drewN ?_ _)|(with_reducible refine Kd.C_drew ?_)));(case side2=>exact HC0.out);(case side3=>repeat (first|exact HR1_0.out|(with_reducible refine Kd.C_alloc ?_ _)|(with_reducible refine Kd.C_drewN ?_ _)|(with_reducible refine Kd.C_drew ?_)));(case side4=>exact HC1_0.out);rintro e w' ⟨rfl,⟨nd,rfl⟩⟩;refine ⟨_,rfl,?_⟩))
 go_ret
 exact ⟨by first|rfl|(simp;done)|(simp [*];done),by repeat (first|exact Drawn0.refl _|apply Drawn0.step)⟩
def impl_indexCode.f (k : Nat) (a0_0 : Int) (a0_1 : Int) (l0_2 : List (S38)) (l1 : List Int) : Option (Int) := (impl_ValidSquare.f k a0_0 a0_1 l0_2).bind fun t379 => (if t379 = true then ((slices_ContainsFunc_int64_int64_at_impl_indexCode_1.f k l1 [(⟨a0_0, a0_1, l0_2⟩ : S30)]).bind fun t380 => ((impl_unless.f (!t380) 2).bind fun t381 => (some t381))) else (some 1))
theorem impl_indexCode.mono : ∀ a0 a1 a2 a3 k, LeO (impl_indexCode.f k a0 a1 a2 a3) (impl_indexCode.f (k + 1) a0 a1 a2 a3) := by
 intro a0 a1 a2 a3 k
 unfold impl_indexCode.f
 repeat' first
   | (with_reducible exact impl_ValidSquare.mono _ _ _ _)
   | (with_reducible exact slices_ContainsFunc_int64_int64_at_impl_indexCode_1.mono _ _ _)
   | (with_reducible exact LeO.refl _)
   | (with_reducible exact LeO.none _)
   | (with_reducible refine LeO.ite ?_ ?_)
   | (with_reducible refine LeO.bind ?_ (fun _=>?_))
   | exact impl_ValidSquare.mono _ _ _ _
   | exact slices_ContainsFunc_int64_int64_at_impl_indexCode_1.mono _ _ _
   | exact LeO.none _
   | refine LeO.ite ?_ ?_
   | refine LeO.bind ?_ (fun _=>?_)
set_option maxHeartbeats 8000000 in
set_option maxRecDepth 100000 in
theorem impl_indexCode.calls (k : Nat) (a0_0 : Int) (a0_1 : Int) (A0_2 : Option Addr) (c0_2 : Nat) (l0_2 : List (S38)) (A1 : Option Addr) (c1 : Nat) (l1 : List Int) (r : Int) (w : World) (hr0_2 : Kd.C k38 w A0_2 l0_2.length l0_2) (hc0_2 : l0_2.length ≤ c0_2) (hr1 : Kd.C (Kd.int .i64) w A1 l1.length l1) (hc1 : l1.length ≤ c1) (h : impl_indexCode.f k a0_0 a0_1 l0_2 l1 = some r) :
  Calls Try.prog 68 #[.agg #[.int .i8 a0_0,.int .i8 a0_1,.slice A0_2 l0_2.length c0_2],.slice A1 l1.length c1] w fun e w'=>e = .returned (.int .i64 r) ∧ Below w.heap.size w w':=by
 have hu30:=Try.underlying30;have HR0_2:=am_ hr0_2;have HC0_2:=am_ hc0_2;clear hr0_2 hc0_2;have HR1:=am_ hr1;have HC1:=am_ hc1;clear hr1 hc1;have HB:=am_ (Below.refl w.heap.size w);have H : ((impl_ValidSquare.f k a0_0 a0_1 l0_2).bind fun t379=>(if t379 = true then ((slices_ContainsFunc_int64_int64_at_impl_indexCode_1.f k l1 [(⟨a0_0,a0_1,l0_2⟩ : S30)]).bind fun t380=>((impl_unless.f (!t380) 2).bind fun t381=>(some t381))) else (some 1))) = some r:=h;clear h;replace H:=Option.bind_eq_some_iff.mp H;obtain ⟨t379,A30,H⟩:=H;replace H : (if t379 = true then ((slices_ContainsFunc_int64_int64_at_impl_indexCode_1.f k l1 [(⟨a0_0,a0_1,l0_2⟩ : S30)]).bind fun t380=>((impl_unless.f (!t380) 2).bind fun t381=>(some t381))) else (some 1)) = some r:=H;have A3:=am_ A30;clear A30
 by_cases c4 : t379 = true
 ·
  subst c4;have H1 : ((slices_ContainsFunc_int64_int64_at_impl_indexCode_1.f k l1 [(⟨a0_0,a0_1,l0_2⟩ : S30)]).bind fun t380=>((impl_unless.f (!t380) 2).bind fun t381=>(some t381))) = some r:=by rw [if_pos rfl] at H;exact H
  clear H;have H:=H1;clear H1;replace H:=Option.bind_eq_some_iff.mp H;obtain ⟨t380,A50,H⟩:=H;replace H : ((impl_unless.f (!t380) 2).bind fun t381=>(some t381)) = some r:=H;have A5:=am_ A50;clear A50;replace H:=Option.bind_eq_some_iff.mp H;obtain ⟨t381,A60,H⟩:=H;replace H : (some t381) = some r:=H;have A6:=am_ A60;clear A60;obtain rfl:=Option.some.inj H
  go_enter Try.func68,Try.ntmps68
  go_wp2_with (first|((with_reducible refine gate_dst (N:=2) rfl ?_);refine box_event ?hg (N:=2) ?hd (cs:=#[.int .i8 a0_0,.int .i8 a0_1,.slice A0_2 l0_2.length c0_2]) (t:=30) ?hr ?_;(case hd=>rfl);(case hg=>rfl);(case hr=>first|(go_simp;done)|(go_simp;rfl));intro gb378 hg w7 hbox hb;have n0_:=am_ (bT_ (by repeat (first|(with_reducible first|exact HB.out|apply bA_|apply bN_|apply bD_)|exact HB.out)) hb);have n1_:=am_ (hbox);have n2_:=am_ ((by rw [hg];exact (below_size (by repeat (first|(with_reducible first|exact HB.out|apply bA_|apply bN_|apply bD_)|exact HB.out))) : w.heap.size≤gb378));have n3_:=n2_;clear HB;have HB:=n0_;have BK378:=n1_;have GW378:=n2_;have GE378:=n3_;clear n0_ n1_ n2_ n3_;clear hb hbox hg;have hcz8_0 : w7.cell? ⟨gb378,0,none⟩ = some (.int .i8 a0_0):=(kC_ BK378.out 0).trans rfl;have hcz8_1 : w7.cell? ⟨gb378,1,none⟩ = some (.int .i8 a0_1):=(kC_ BK378.out 1).trans rfl;have hcz8_2 : w7.cell? ⟨gb378,2,none⟩ = some (.slice A0_2 l0_2.length c0_2):=(kC_ BK378.out 2).trans rfl;have hfz8_0:=kF_ BK378.out 0;have hfz8_1:=kF_ BK378.out 1;have hfz8_2:=kF_ BK378.out 2)|((with_reducible refine gate_callee (f:=14) rfl ?_);refine goesL_ (some 6) rfl rfl Try.func14 (by kernel_rfl) rfl #[.agg #[.int .i8 a0_0,.int .i8 a0_1,.slice A0_2 l0_2.length c0_2]] rfl (by (try simp only [List.map_toArray,List.map_cons,List.map_nil]);first|done|rfl|(simp only [List.length_drop,List.length_take];rfl)) ?_;(with_reducible refine (impl_ValidSquare.calls k a0_0 a0_1 _ _ l0_2 true _ ?side1 ?side2 A3.out).mono ?_);(case side1=>repeat (first|exact (Kd.C_below HR0_2.out HB.out)|(with_reducible refine Kd.C_alloc ?_ _)|(with_reducible refine Kd.C_drewN ?_ _)|(with_reducible refine Kd.C_drew ?_)));(case side2=>exact HC0_2.out);rintro e w9 ⟨rfl,hb⟩;refine ⟨_,rfl,?_⟩;have n0_:=am_ (blk_below (g:=gb378) (o:=.cells #[.int .i8 a0_0,.int .i8 a0_1,.slice A0_2 l0_2.length c0_2] 30 (0,0)) (by (with_reducible repeat (first|apply kN_|apply kD_|apply kA_));exact BK378.out) hb);have n1_:=am_ (bT_ (by repeat (first|(with_reducible first|exact HB.out|apply bA_|apply bN_|apply bD_|refine bS_ ?_ GE378.out)|exact HB.out)) hb);clear BK378;clear HB;have BK378:=n0_;have HB:=n1_;clear n0_ n1_;(try clear hb);(try clear hb2);(try clear hk);(try clear hi))|((with_reducible refine gate_callee (f:=88) rfl ?_);refine goesL_ (some 10) rfl rfl Try.func88 (by kernel_rfl) rfl #[.slice A1 l1.length c1,.func (.func 89) #[] #[.pointer (some ⟨gb378,0,none⟩)]] rfl (by (try simp only [List.map_toArray,List.map_cons,List.map_nil]);first|done|rfl|(simp only [List.length_drop,List.length_take];rfl)) ?_;(with_reducible refine (slices_ContainsFunc_int64_int64_at_impl_indexCode_1.calls k _ _ l1 _ 1 [(⟨a0_0,a0_1,l0_2⟩ : S30)] t380 _ ?side1 ?side2 ?side3 ?side4 A5.out).mono ?_);(case side1=>repeat (first|exact (Kd.C_below HR1.out HB.out)|(with_reducible refine Kd.C_alloc ?_ _)|(with_reducible refine Kd.C_drewN ?_ _)|(with_reducible refine Kd.C_drew ?_)));(case side2=>exact HC1.out);(case side3=>exact Kd.C_one_ (by (with_reducible repeat (first|apply kN_|apply kD_|apply kA_));exact BK378.out) (k30_mk _ _ (by exact HC0_2.out) (by repeat (first|exact (Kd.C_below HR0_2.out HB.out)|(with_reducible refine Kd.C_alloc ?_ _)|(with_reducible refine Kd.C_drewN ?_ _)|(with_reducible refine Kd.C_drew ?_)))));(case side4=>exact Nat.le_refl _);rintro e w' ⟨rfl,⟨nd,rfl⟩⟩;refine ⟨_,rfl,?_⟩)|((with_reducible refine gate_callee (f:=81) rfl ?_);refine goesL_ (some 12) rfl rfl Try.func81 (by kernel_rfl) rfl #[.bool (!t380),.int .i64 2] rfl (by (try simp only [List.map_toArray,List.map_cons,List.map_nil]);first|done|rfl|(simp only [List.length_drop,List.length_take];rfl)) ?_;(with_reducible refine (impl_unless.calls (!t380) 2 t381 _ A6.out).mono ?_);rintro e w' ⟨rfl,⟨nd,rfl⟩⟩;refine ⟨_,rfl,?_⟩))
  go_ret
  exact ⟨by first|rfl|(simp [errW_none,errW_some] <;> rfl)|(simp [*,errW_none,errW_some] <;> rfl),by repeat (first|(with_reducible first|exact HB.out|apply bA_|apply bN_|apply bD_|refine bS_ ?_ GE378.out)|exact HB.out)⟩
 ·
  replace c4:=Bool.eq_false_iff.mpr c4;subst c4;have H1 : (some 1) = some r:=by rw [if_neg (show ¬ (false = true) by decide)] at H;exact H
  clear H;have H:=H1;clear H1;obtain rfl:=Option.some.inj H
  go_enter Try.func68,Try.ntmps68
  go_wp2_with (first|((with_reducible refine gate_dst (N:=2) rfl ?_);refine box_event ?hg (N:=2) ?hd (cs:=#[.int .i8 a0_0,.int .i8 a0_1,.slice A0_2 l0_2.length c0_2]) (t:=30) ?hr ?_;(case hd=>rfl);(case hg=>rfl);(case hr=>first|(go_simp;done)|(go_simp;rfl));intro gb378 hg w10 hbox hb;have n0_:=am_ (bT_ (by repeat (first|(with_reducible first|exact HB.out|apply bA_|apply bN_|apply bD_)|exact HB.out)) hb);have n1_:=am_ (hbox);have n2_:=am_ ((by rw [hg];exact (below_size (by repeat (first|(with_reducible first|exact HB.out|apply bA_|apply bN_|apply bD_)|exact HB.out))) : w.heap.size≤gb378));have n3_:=n2_;clear HB;have HB:=n0_;have BK378:=n1_;have GW378:=n2_;have GE378:=n3_;clear n0_ n1_ n2_ n3_;clear hb hbox hg;have hcz11_0 : w10.cell? ⟨gb378,0,none⟩ = some (.int .i8 a0_0):=(kC_ BK378.out 0).trans rfl;have hcz11_1 : w10.cell? ⟨gb378,1,none⟩ = some (.int .i8 a0_1):=(kC_ BK378.out 1).trans rfl;have hcz11_2 : w10.cell? ⟨gb378,2,none⟩ = some (.slice A0_2 l0_2.length c0_2):=(kC_ BK378.out 2).trans rfl;have hfz11_0:=kF_ BK378.out 0;have hfz11_1:=kF_ BK378.out 1;have hfz11_2:=kF_ BK378.out 2)|((with_reducible refine gate_callee (f:=14) rfl ?_);refine goesL_ (some 6) rfl rfl Try.func14 (by kernel_rfl) rfl #[.agg #[.int .i8 a0_0,.int .i8 a0_1,.slice A0_2 l0_2.length c0_2]] rfl (by (try simp only [List.map_toArray,List.map_cons,List.map_nil]);first|done|rfl|(simp only [List.length_drop,List.length_take];rfl)) ?_;(with_reducible refine (impl_ValidSquare.calls k a0_0 a0_1 _ _ l0_2 false _ ?side1 ?side2 A3.out).mono ?_);(case side1=>repeat (first|exact (Kd.C_below HR0_2.out HB.out)|(with_reducible refine Kd.C_alloc ?_ _)|(with_reducible refine Kd.C_drewN ?_ _)|(with_reducible refine Kd.C_drew ?_)));(case side2=>exact HC0_2.out);rintro e w12 ⟨rfl,hb⟩;refine ⟨_,rfl,?_⟩;have n0_:=am_ (blk_below (g:=gb378) (o:=.cells #[.int .i8 a0_0,.int .i8 a0_1,.slice A0_2 l0_2.length c0_2] 30 (0,0)) (by (with_reducible repeat (first|apply kN_|apply kD_|apply kA_));exact BK378.out) hb);have n1_:=am_ (bT_ (by repeat (first|(with_reducible first|exact HB.out|apply bA_|apply bN_|apply bD_|refine bS_ ?_ GE378.out)|exact HB.out)) hb);clear BK378;clear HB;have BK378:=n0_;have HB:=n1_;clear n0_ n1_;(try clear hb);(try clear hb2);(try clear hk);(try clear hi)))
  go_ret
  exact ⟨by first|rfl|(simp [errW_none,errW_some] <;> rfl)|(simp [*,errW_none,errW_some] <;> rfl),by repeat (first|(with_reducible first|exact HB.out|apply bA_|apply bN_|apply bD_|refine bS_ ?_ GE378.out)|exact HB.out)⟩
end Go.Proofs.Ytanpafadehnhlaa.Q
