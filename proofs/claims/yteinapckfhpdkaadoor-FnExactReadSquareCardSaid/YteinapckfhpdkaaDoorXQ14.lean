-- Trimmed by a program.
import Derived.Test.YteinapckfhpdkaaDoorXQ0
namespace Go.Proofs.YteinapckfhpdkaaDoor.Q
open Go.RowKit Go.Proofs.YteinapckfhpdkaaDoorW.PrintWords Go.Proofs.YteinapckfhpdkaaDoorW.PrintLast Go.Proofs.YteinapckfhpdkaaDoorW.PrintMore
attribute [local go_sem] max2_int min2_int max_two min_two max_three min_three max_four min_four
set_option linter.unusedVariables false
set_option linter.unusedSimpArgs false
def impl_Slab_covers.f (a0_0 : Int) (a0_1 : Int) (a0_2 : Int) (a0_3 : Int) (a1 : Int) (a2 : Int) : Option (Bool) := if a1 ≥ (wrap64 (a0_0)) then (if a1 < (wrap64 ((wrap64 (a0_0)) + (wrap64 (a0_2)))) then (if a2 ≥ (wrap64 (a0_1)) then (some (decide (a2 < (wrap64 ((wrap64 (a0_1)) + (wrap64 (a0_3))))))) else (some false)) else (some false)) else (some false)
set_option maxHeartbeats 8000000 in
set_option maxRecDepth 100000 in
theorem impl_Slab_covers.calls (a0_0 : Int) (a0_1 : Int) (a0_2 : Int) (a0_3 : Int) (a1 : Int) (a2 : Int) (r : Bool) (w : World) (h : impl_Slab_covers.f a0_0 a0_1 a0_2 a0_3 a1 a2 = some r) :
  Calls Tryd.prog 44 #[.agg #[.int .i8 a0_0,.int .i8 a0_1,.int .i8 a0_2,.int .i8 a0_3],.int .i64 a1,.int .i64 a2] w fun e w'=>e = .returned (.bool r) ∧ Below w.heap.size w w':=by
 have hu36:=Tryd.underlying36;have HB:=am_ (Below.refl w.heap.size w);have H : (if a1 ≥ (wrap64 (a0_0)) then (if a1 < (wrap64 ((wrap64 (a0_0)) + (wrap64 (a0_2)))) then (if a2 ≥ (wrap64 (a0_1)) then (some (decide (a2 < (wrap64 ((wrap64 (a0_1)) + (wrap64 (a0_3))))))) else (some false)) else (some false)) else (some false)) = some r:=h;clear h
 by_cases c4 : a1 ≥ (wrap64 (a0_0))
 ·
  rw [if_pos c4] at H;have c4b0 : decide ((wrap64 (a0_0))≤a1) = true:=decide_eq_true c4;clear c4
  by_cases c5 : a1 < (wrap64 ((wrap64 (a0_0)) + (wrap64 (a0_2))))
  ·
   rw [if_pos c5] at H;have c5b0 : decide (a1 < (wrap64 ((wrap64 (a0_0)) + (wrap64 (a0_2))))) = true:=decide_eq_true c5;clear c5
   by_cases c6 : a2 ≥ (wrap64 (a0_1))
   ·
    rw [if_pos c6] at H;have c6b0 : decide ((wrap64 (a0_1))≤a2) = true:=decide_eq_true c6;clear c6;obtain rfl:=Option.some.inj H
    go_enter Tryd.func44,Tryd.ntmps44
    go_wp2_with (first|((with_reducible refine gate_dst (N:=3) rfl ?_);refine box_event ?hg (N:=3) ?hd (cs:=#[.int .i8 a0_0,.int .i8 a0_1,.int .i8 a0_2,.int .i8 a0_3]) (t:=36) ?hr ?_;(case hd=>rfl);(case hg=>rfl);(case hr=>first|(go_simp;done)|(go_simp;rfl));intro gb242 hg w7 hbox hb;have n0_:=am_ (bT_ (by repeat (first|(with_reducible first|exact HB.out|apply bA_|apply bN_|apply bD_)|exact HB.out)) hb);have n1_:=am_ (hbox);have n2_:=am_ ((by rw [hg];exact (bZ_ (by repeat (first|(with_reducible first|exact HB.out|apply bA_|apply bN_|apply bD_)|exact HB.out))) : w.heap.size≤gb242));have n3_:=n2_;clear HB;have HB:=n0_;have BK242:=n1_;have GW242:=n2_;have GE242:=n3_;clear n0_ n1_ n2_ n3_;clear hb hbox hg;have hcz8_0 : w7.cell? ⟨gb242,0,none⟩ = some (.int .i8 a0_0):=(kC_ BK242.out 0).trans rfl;have hcz8_1 : w7.cell? ⟨gb242,1,none⟩ = some (.int .i8 a0_1):=(kC_ BK242.out 1).trans rfl;have hcz8_2 : w7.cell? ⟨gb242,2,none⟩ = some (.int .i8 a0_2):=(kC_ BK242.out 2).trans rfl;have hcz8_3 : w7.cell? ⟨gb242,3,none⟩ = some (.int .i8 a0_3):=(kC_ BK242.out 3).trans rfl;have hfz8_0:=kF_ BK242.out 0;have hfz8_1:=kF_ BK242.out 1;have hfz8_2:=kF_ BK242.out 2;have hfz8_3:=kF_ BK242.out 3))
    go_ret
    exact ⟨by first|rfl|(simp [errW_none,errW_some] <;> rfl)|(simp [*,errW_none,errW_some] <;> rfl),by repeat (first|(with_reducible first|exact HB.out|apply bA_|apply bN_|apply bD_|refine bS_ ?_ GE242.out)|exact HB.out)⟩
   ·
    rw [if_neg c6] at H;have c6b0 : decide ((wrap64 (a0_1))≤a2) = false:=decide_eq_false c6;clear c6;obtain rfl:=Option.some.inj H
    go_enter Tryd.func44,Tryd.ntmps44
    go_wp2_with (first|((with_reducible refine gate_dst (N:=3) rfl ?_);refine box_event ?hg (N:=3) ?hd (cs:=#[.int .i8 a0_0,.int .i8 a0_1,.int .i8 a0_2,.int .i8 a0_3]) (t:=36) ?hr ?_;(case hd=>rfl);(case hg=>rfl);(case hr=>first|(go_simp;done)|(go_simp;rfl));intro gb242 hg w9 hbox hb;have n0_:=am_ (bT_ (by repeat (first|(with_reducible first|exact HB.out|apply bA_|apply bN_|apply bD_)|exact HB.out)) hb);have n1_:=am_ (hbox);have n2_:=am_ ((by rw [hg];exact (bZ_ (by repeat (first|(with_reducible first|exact HB.out|apply bA_|apply bN_|apply bD_)|exact HB.out))) : w.heap.size≤gb242));have n3_:=n2_;clear HB;have HB:=n0_;have BK242:=n1_;have GW242:=n2_;have GE242:=n3_;clear n0_ n1_ n2_ n3_;clear hb hbox hg;have hcz10_0 : w9.cell? ⟨gb242,0,none⟩ = some (.int .i8 a0_0):=(kC_ BK242.out 0).trans rfl;have hcz10_1 : w9.cell? ⟨gb242,1,none⟩ = some (.int .i8 a0_1):=(kC_ BK242.out 1).trans rfl;have hcz10_2 : w9.cell? ⟨gb242,2,none⟩ = some (.int .i8 a0_2):=(kC_ BK242.out 2).trans rfl;have hcz10_3 : w9.cell? ⟨gb242,3,none⟩ = some (.int .i8 a0_3):=(kC_ BK242.out 3).trans rfl;have hfz10_0:=kF_ BK242.out 0;have hfz10_1:=kF_ BK242.out 1;have hfz10_2:=kF_ BK242.out 2;have hfz10_3:=kF_ BK242.out 3))
    go_ret
    exact ⟨by first|rfl|(simp [errW_none,errW_some] <;> rfl)|(simp [*,errW_none,errW_some] <;> rfl),by repeat (first|(with_reducible first|exact HB.out|apply bA_|apply bN_|apply bD_|refine bS_ ?_ GE242.out)|exact HB.out)⟩
  ·
   rw [if_neg c5] at H;have c5b0 : decide (a1 < (wrap64 ((wrap64 (a0_0)) + (wrap64 (a0_2))))) = false:=decide_eq_false c5;clear c5;obtain rfl:=Option.some.inj H
   go_enter Tryd.func44,Tryd.ntmps44
   go_wp2_with (first|((with_reducible refine gate_dst (N:=3) rfl ?_);refine box_event ?hg (N:=3) ?hd (cs:=#[.int .i8 a0_0,.int .i8 a0_1,.int .i8 a0_2,.int .i8 a0_3]) (t:=36) ?hr ?_;(case hd=>rfl);(case hg=>rfl);(case hr=>first|(go_simp;done)|(go_simp;rfl));intro gb242 hg w11 hbox hb;have n0_:=am_ (bT_ (by repeat (first|(with_reducible first|exact HB.out|apply bA_|apply bN_|apply bD_)|exact HB.out)) hb);have n1_:=am_ (hbox);have n2_:=am_ ((by rw [hg];exact (bZ_ (by repeat (first|(with_reducible first|exact HB.out|apply bA_|apply bN_|apply bD_)|exact HB.out))) : w.heap.size≤gb242));have n3_:=n2_;clear HB;have HB:=n0_;have BK242:=n1_;have GW242:=n2_;have GE242:=n3_;clear n0_ n1_ n2_ n3_;clear hb hbox hg;have hcz12_0 : w11.cell? ⟨gb242,0,none⟩ = some (.int .i8 a0_0):=(kC_ BK242.out 0).trans rfl;have hcz12_1 : w11.cell? ⟨gb242,1,none⟩ = some (.int .i8 a0_1):=(kC_ BK242.out 1).trans rfl;have hcz12_2 : w11.cell? ⟨gb242,2,none⟩ = some (.int .i8 a0_2):=(kC_ BK242.out 2).trans rfl;have hcz12_3 : w11.cell? ⟨gb242,3,none⟩ = some (.int .i8 a0_3):=(kC_ BK242.out 3).trans rfl;have hfz12_0:=kF_ BK242.out 0;have hfz12_1:=kF_ BK242.out 1;have hfz12_2:=kF_ BK242.out 2;have hfz12_3:=kF_ BK242.out 3))
   go_ret
   exact ⟨by first|rfl|(simp [errW_none,errW_some] <;> rfl)|(simp [*,errW_none,errW_some] <;> rfl),by repeat (first|(with_reducible first|exact HB.out|apply bA_|apply bN_|apply bD_|refine bS_ ?_ GE242.out)|exact HB.out)⟩
 ·
  rw [if_neg c4] at H;have c4b0 : decide ((wrap64 (a0_0))≤a1) = false:=decide_eq_false c4;clear c4;obtain rfl:=Option.some.inj H
  go_enter Tryd.func44,Tryd.ntmps44
  go_wp2_with (first|((with_reducible refine gate_dst (N:=3) rfl ?_);refine box_event ?hg (N:=3) ?hd (cs:=#[.int .i8 a0_0,.int .i8 a0_1,.int .i8 a0_2,.int .i8 a0_3]) (t:=36) ?hr ?_;(case hd=>rfl);(case hg=>rfl);(case hr=>first|(go_simp;done)|(go_simp;rfl));intro gb242 hg w13 hbox hb;have n0_:=am_ (bT_ (by repeat (first|(with_reducible first|exact HB.out|apply bA_|apply bN_|apply bD_)|exact HB.out)) hb);have n1_:=am_ (hbox);have n2_:=am_ ((by rw [hg];exact (bZ_ (by repeat (first|(with_reducible first|exact HB.out|apply bA_|apply bN_|apply bD_)|exact HB.out))) : w.heap.size≤gb242));have n3_:=n2_;clear HB;have HB:=n0_;have BK242:=n1_;have GW242:=n2_;have GE242:=n3_;clear n0_ n1_ n2_ n3_;clear hb hbox hg;have hcz14_0 : w13.cell? ⟨gb242,0,none⟩ = some (.int .i8 a0_0):=(kC_ BK242.out 0).trans rfl;have hcz14_1 : w13.cell? ⟨gb242,1,none⟩ = some (.int .i8 a0_1):=(kC_ BK242.out 1).trans rfl;have hcz14_2 : w13.cell? ⟨gb242,2,none⟩ = some (.int .i8 a0_2):=(kC_ BK242.out 2).trans rfl;have hcz14_3 : w13.cell? ⟨gb242,3,none⟩ = some (.int .i8 a0_3):=(kC_ BK242.out 3).trans rfl;have hfz14_0:=kF_ BK242.out 0;have hfz14_1:=kF_ BK242.out 1;have hfz14_2:=kF_ BK242.out 2;have hfz14_3:=kF_ BK242.out 3))
  go_ret
  exact ⟨by first|rfl|(simp [errW_none,errW_some] <;> rfl)|(simp [*,errW_none,errW_some] <;> rfl),by repeat (first|(with_reducible first|exact HB.out|apply bA_|apply bN_|apply bD_|refine bS_ ?_ GE242.out)|exact HB.out)⟩
def impl_Square_at_1.f (a0_0 : Int) (a0_1 : Int) (a0_2 : Int) (a0_3 : Int) (l1 : List Int) (l2 : List Int) : Option (Bool) := if 0 < (l1.length : Int) then (if 0 < (l2.length : Int) then ((impl_Slab_covers.f a0_0 a0_1 a0_2 a0_3 (rd l1 0) (rd l2 0)).bind fun t246 => (some t246)) else (none)) else (none)
set_option maxHeartbeats 8000000 in
set_option maxRecDepth 100000 in
theorem impl_Square_at_1.calls (a0_0 : Int) (a0_1 : Int) (a0_2 : Int) (a0_3 : Int) (A1 : Option Addr) (c1 : Nat) (l1 : List Int) (A2 : Option Addr) (c2 : Nat) (l2 : List Int) (r : Bool) (w : World) (hr1 : Kd.C (Kd.int .i64) w A1 l1.length l1) (hc1 : l1.length ≤ c1) (hr2 : Kd.C (Kd.int .i64) w A2 l2.length l2) (hc2 : l2.length ≤ c2) (h : impl_Square_at_1.f a0_0 a0_1 a0_2 a0_3 l1 l2 = some r) :
  Calls Tryd.prog 43 #[.agg #[.int .i8 a0_0,.int .i8 a0_1,.int .i8 a0_2,.int .i8 a0_3],.pointer A1,.pointer A2] w fun e w'=>e = .returned (.bool r) ∧ Below w.heap.size w w':=by
 have hu36:=Tryd.underlying36;have HR1:=am_ hr1;have HC1:=am_ hc1;clear hr1 hc1;have HR2:=am_ hr2;have HC2:=am_ hc2;clear hr2 hc2;have HB:=am_ (Below.refl w.heap.size w);have H : (if 0 < (l1.length : Int) then (if 0 < (l2.length : Int) then ((impl_Slab_covers.f a0_0 a0_1 a0_2 a0_3 (rd l1 0) (rd l2 0)).bind fun t246=>(some t246)) else (none)) else (none)) = some r:=h;clear h
 by_cases c4 : 0 < (l1.length : Int)
 ·
  rw [if_pos c4] at H;have c4b0 : decide (0 < (l1.length : Int)) = true:=decide_eq_true c4;have c4b1 : decide (0 < l1.length) = true:=decide_eq_true (by omega);clear c4
  by_cases c5 : 0 < (l2.length : Int)
  ·
   rw [if_pos c5] at H;have c5b0 : decide (0 < (l2.length : Int)) = true:=decide_eq_true c5;have c5b1 : decide (0 < l2.length) = true:=decide_eq_true (by omega);clear c5;replace H:=Option.bind_eq_some_iff.mp H;obtain ⟨t246,A60,H⟩:=H;replace H : (some t246) = some r:=H;have A6:=am_ A60;clear A60;obtain rfl:=Option.some.inj H
   go_enter Tryd.func43,Tryd.ntmps43
   go_wp2_with (first|((with_reducible refine gate_dst (N:=3) rfl ?_);refine box_event ?hg (N:=3) ?hd (cs:=#[.int .i8 a0_0,.int .i8 a0_1,.int .i8 a0_2,.int .i8 a0_3]) (t:=36) ?hr ?_;(case hd=>rfl);(case hg=>rfl);(case hr=>first|(go_simp;done)|(go_simp;rfl));intro gb243 hg w7 hbox hb;have n0_:=am_ (bT_ (by repeat (first|(with_reducible first|exact HB.out|apply bA_|apply bN_|apply bD_)|exact HB.out)) hb);have n1_:=am_ (hbox);have n2_:=am_ ((by rw [hg];exact (bZ_ (by repeat (first|(with_reducible first|exact HB.out|apply bA_|apply bN_|apply bD_)|exact HB.out))) : w.heap.size≤gb243));have n3_:=n2_;clear HB;have HB:=n0_;have BK243:=n1_;have GW243:=n2_;have GE243:=n3_;clear n0_ n1_ n2_ n3_;clear hb hbox hg;have hcz8_0 : w7.cell? ⟨gb243,0,none⟩ = some (.int .i8 a0_0):=(kC_ BK243.out 0).trans rfl;have hcz8_1 : w7.cell? ⟨gb243,1,none⟩ = some (.int .i8 a0_1):=(kC_ BK243.out 1).trans rfl;have hcz8_2 : w7.cell? ⟨gb243,2,none⟩ = some (.int .i8 a0_2):=(kC_ BK243.out 2).trans rfl;have hcz8_3 : w7.cell? ⟨gb243,3,none⟩ = some (.int .i8 a0_3):=(kC_ BK243.out 3).trans rfl;have hfz8_0:=kF_ BK243.out 0;have hfz8_1:=kF_ BK243.out 1;have hfz8_2:=kF_ BK243.out 2;have hfz8_3:=kF_ BK243.out 3;have p244 : 0≤(0 : Int):=(by omega);have q244 : 0 < (l1.length : Int):=od_ (by first|(with_reducible assumption)|assumption);obtain ⟨ad244,e244,hx244_0⟩:=Kd.at_int HR1.out 0 p244 q244;cases e244;have qi244 : (0 < l1.length) = True:=eq_true (by omega);(try rw [show ((0 : Int)).toNat = 0 from rfl] at hx244_0);(try rw [Addr.add_zero'] at hx244_0);replace hx244_0:=(HB.out.cell (bl_ w _ hx244_0)).trans hx244_0;replace p244:=eq_true p244;replace q244:=eq_true q244;have p245 : 0≤(0 : Int):=(by omega);have q245 : 0 < (l2.length : Int):=od_ (by first|(with_reducible assumption)|assumption);obtain ⟨ad245,e245,hx245_0⟩:=Kd.at_int HR2.out 0 p245 q245;cases e245;have qi245 : (0 < l2.length) = True:=eq_true (by omega);(try rw [show ((0 : Int)).toNat = 0 from rfl] at hx245_0);(try rw [Addr.add_zero'] at hx245_0);replace hx245_0:=(HB.out.cell (bl_ w _ hx245_0)).trans hx245_0;replace p245:=eq_true p245;replace q245:=eq_true q245)|((with_reducible refine gate_callee (f:=44) rfl ?_);refine goesL_ (some 8) rfl rfl Tryd.func44 (by kernel_rfl) rfl #[.agg #[.int .i8 a0_0,.int .i8 a0_1,.int .i8 a0_2,.int .i8 a0_3],.int .i64 (rd l1 0),.int .i64 (rd l2 0)] rfl (by (try simp only [List.map_toArray,List.map_cons,List.map_nil]);first|done|rfl|(simp only [List.length_drop,List.length_take];rfl)) ?_;(with_reducible refine (impl_Slab_covers.calls a0_0 a0_1 a0_2 a0_3 (rd l1 0) (rd l2 0) t246 _ A6.out).mono ?_);rintro e w9 ⟨rfl,hb⟩;refine ⟨_,rfl,?_⟩;have n0_:=am_ (kB_ (g:=gb243) (o:=.cells #[.int .i8 a0_0,.int .i8 a0_1,.int .i8 a0_2,.int .i8 a0_3] 36 (0,0)) (by (with_reducible repeat (first|apply kN_|apply kD_|apply kA_));exact BK243.out) hb);have n1_:=am_ (bT_ (by repeat (first|(with_reducible first|exact HB.out|apply bA_|apply bN_|apply bD_|refine bS_ ?_ GE243.out)|exact HB.out)) hb);clear BK243;clear HB;have BK243:=n0_;have HB:=n1_;clear n0_ n1_;(try clear hb);(try clear hb2);(try clear hk);(try clear hi)))
   go_ret
   exact ⟨by first|rfl|(simp [errW_none,errW_some] <;> rfl)|(simp [*,errW_none,errW_some] <;> rfl),by repeat (first|(with_reducible first|exact HB.out|apply bA_|apply bN_|apply bD_|refine bS_ ?_ GE243.out)|exact HB.out)⟩
  ·
   rw [if_neg c5] at H;exact absurd H (by simp)
 ·
  rw [if_neg c4] at H;exact absurd H (by simp)
def slices_IndexFunc_impl_Slab_at_impl_Square_at_1.l0 : Nat → List (S36) → Int → Int → List Int → List Int → Option (Int)
 | 0,_,_,_,_,_=>none
 | k + 1,x0,x7,x8,x2000,x2001=>if x8 < x7 then (if 0≤x8 then (if x8 < (x0.length : Int) then ((impl_Square_at_1.f ((rd_T36 x0 x8).f0) ((rd_T36 x0 x8).f1) ((rd_T36 x0 x8).f2) ((rd_T36 x0 x8).f3) x2000 x2001).bind fun t248=>(if t248 = true then (some x8) else (slices_IndexFunc_impl_Slab_at_impl_Square_at_1.l0 k x0 x7 (wrap64 (x8 + 1)) x2000 x2001))) else (none)) else (none)) else (some (-1))
def slices_IndexFunc_impl_Slab_at_impl_Square_at_1.f (k : Nat) (l0 : List (S36)) (l1_0 : List Int) (l1_1 : List Int) : Option (Int) := slices_IndexFunc_impl_Slab_at_impl_Square_at_1.l0 k l0 (l0.length : Int) 0 l1_0 l1_1
theorem slices_IndexFunc_impl_Slab_at_impl_Square_at_1.mono_l : ∀ k, (∀ y0 y1 y2 y3 y4, LeO (slices_IndexFunc_impl_Slab_at_impl_Square_at_1.l0 k y0 y1 y2 y3 y4) (slices_IndexFunc_impl_Slab_at_impl_Square_at_1.l0 (k + 1) y0 y1 y2 y3 y4))
 | 0=>fun _ _ _ _ _ r h=>by simp [slices_IndexFunc_impl_Slab_at_impl_Square_at_1.l0] at h
 | k + 1=>by
  have ih0:=slices_IndexFunc_impl_Slab_at_impl_Square_at_1.mono_l k
  ·
   intro y0 y1 y2 y3 y4
   unfold slices_IndexFunc_impl_Slab_at_impl_Square_at_1.l0
   repeat' first
   | (with_reducible exact ih0 _ _ _ _ _)
   | (with_reducible exact LeO.refl _)
   | (with_reducible exact LeO.none _)
   | (with_reducible refine LeO.ite ?_ ?_)
   | (with_reducible refine LeO.bind ?_ (fun _=>?_))
   | exact ih0 _ _ _ _ _
   | exact LeO.none _
   | refine LeO.ite ?_ ?_
   | refine LeO.bind ?_ (fun _=>?_)
theorem slices_IndexFunc_impl_Slab_at_impl_Square_at_1.mono : ∀ a0 a1 a2 k, LeO (slices_IndexFunc_impl_Slab_at_impl_Square_at_1.f k a0 a1 a2) (slices_IndexFunc_impl_Slab_at_impl_Square_at_1.f (k + 1) a0 a1 a2) := by
 intro a0 a1 a2 k;have ih0:=slices_IndexFunc_impl_Slab_at_impl_Square_at_1.mono_l k
 unfold slices_IndexFunc_impl_Slab_at_impl_Square_at_1.f
 repeat' first
   | (with_reducible exact ih0 _ _ _ _ _)
   | (with_reducible exact LeO.refl _)
   | (with_reducible exact LeO.none _)
   | (with_reducible refine LeO.ite ?_ ?_)
   | (with_reducible refine LeO.bind ?_ (fun _=>?_))
   | exact ih0 _ _ _ _ _
   | exact LeO.none _
   | refine LeO.ite ?_ ?_
   | refine LeO.bind ?_ (fun _=>?_)
set_option maxHeartbeats 8000000 in
set_option maxRecDepth 100000 in
theorem slices_IndexFunc_impl_Slab_at_impl_Square_at_1.calls (k : Nat) (A0 : Option Addr) (c0 : Nat) (l0 : List (S36)) (A1_0 : Option Addr) (c1_0 : Nat) (l1_0 : List Int) (A1_1 : Option Addr) (c1_1 : Nat) (l1_1 : List Int) (r : Int) (w : World) (hr0 : Kd.C k36 w A0 l0.length l0) (hc0 : l0.length ≤ c0) (hr1_0 : Kd.C (Kd.int .i64) w A1_0 l1_0.length l1_0) (hc1_0 : l1_0.length ≤ c1_0) (hr1_1 : Kd.C (Kd.int .i64) w A1_1 l1_1.length l1_1) (hc1_1 : l1_1.length ≤ c1_1) (h : slices_IndexFunc_impl_Slab_at_impl_Square_at_1.f k l0 l1_0 l1_1 = some r) :
  Calls Tryd.prog 42 #[.slice A0 l0.length c0,.func (.func 43) #[] #[.pointer A1_0,.pointer A1_1]] w fun e w'=>e = .returned (.int .i64 r) ∧ Below w.heap.size w w':=by
 have hu36:=Tryd.underlying36;have HR0:=am_ hr0;have HC0:=am_ hc0;clear hr0 hc0;have HR1_0:=am_ hr1_0;have HC1_0:=am_ hc1_0;clear hr1_0 hc1_0;have HR1_1:=am_ hr1_1;have HC1_1:=am_ hc1_1;clear hr1_1 hc1_1;have HB:=am_ (Below.refl w.heap.size w);have H : (slices_IndexFunc_impl_Slab_at_impl_Square_at_1.l0 k l0 (l0.length : Int) 0 l1_0 l1_1) = some r:=h;clear h;have H':=am_ H;clear H
 go_enter Tryd.func42,Tryd.ntmps42
 go_wp2
 go_loopg [8] k (fun kq v8 w'=>∃ (x8_1 : Int),v8 = .int .i64 x8_1 ∧ Aside0 (slices_IndexFunc_impl_Slab_at_impl_Square_at_1.l0 kq l0 (l0.length : Int) x8_1 l1_0 l1_1 = some r) ∧ Aside0 (kq≤k) ∧ Aside0 (Below w.heap.size w w'))
 case atStart=>exact ⟨(0),(by first|rfl|(simp;done)|(simp [*];done)),H',⟨Nat.le_refl _⟩,⟨by repeat (first|(with_reducible first|exact HB.out|apply bA_|apply bN_|apply bD_)|exact HB.out)⟩⟩
 case round =>
  clear H';(try clear c1);(try clear p2);obtain ⟨x8_1,rfl,HA,HK1,HB⟩:=hrel
  cases gk with
  | zero=>exact absurd HA.out (by simp [slices_IndexFunc_impl_Slab_at_impl_Square_at_1.l0])
  | succ k1 =>
   have H:=HA.out;clear HA;simp only [slices_IndexFunc_impl_Slab_at_impl_Square_at_1.l0] at H
   by_cases c3 : x8_1 < (l0.length : Int)
   ·
    rw [if_pos c3] at H;have c3b0 : decide (x8_1 < (l0.length : Int)) = true:=decide_eq_true c3;clear c3
    by_cases c4 : 0≤x8_1
    ·
     rw [if_pos c4] at H;have c4b0 : decide (0≤x8_1) = true:=decide_eq_true c4;clear c4
     by_cases c5 : x8_1 < (l0.length : Int)
     ·
      rw [if_pos c5] at H;have c5b0 : decide (x8_1 < (l0.length : Int)) = true:=decide_eq_true c5;clear c5;replace H:=Option.bind_eq_some_iff.mp H;obtain ⟨t248,A60,H⟩:=H;replace H : (if t248 = true then (some x8_1) else (slices_IndexFunc_impl_Slab_at_impl_Square_at_1.l0 k1 l0 (l0.length : Int) (wrap64 (x8_1 + 1)) l1_0 l1_1)) = some r:=H;have A6:=am_ A60;clear A60
      by_cases c7 : t248 = true
      ·
       subst c7;have H1 : (some x8_1) = some r:=by rw [if_pos rfl] at H;exact H
       clear H;have H:=H1;clear H1;obtain rfl:=Option.some.inj H;have p247 : 0≤(x8_1 : Int):=od_ (by first|(with_reducible assumption)|assumption);have q247 : x8_1 < (l0.length : Int):=od_ (by first|(with_reducible assumption)|assumption);obtain ⟨ad247,e247,hx247_0,hx247_1,hx247_2,hx247_3⟩:=at_T36 HR0.out x8_1 p247 q247
       cases e247
       replace hx247_0:=(HB.out.cell (bl_ w _ hx247_0)).trans hx247_0;replace hx247_1:=(HB.out.cell (bl_ w _ hx247_1)).trans hx247_1;replace hx247_2:=(HB.out.cell (bl_ w _ hx247_2)).trans hx247_2;replace hx247_3:=(HB.out.cell (bl_ w _ hx247_3)).trans hx247_3;replace p247:=eq_true p247;replace q247:=eq_true q247
       go_wp2_with (first|(go_at_call 43;(with_reducible refine (impl_Square_at_1.calls ((rd_T36 l0 x8_1).f0) ((rd_T36 l0 x8_1).f1) ((rd_T36 l0 x8_1).f2) ((rd_T36 l0 x8_1).f3) _ c1_0 l1_0 _ c1_1 l1_1 true _ ?side1 ?side2 ?side3 ?side4 A6.out).mono ?_);(case side1=>repeat (first|exact (cB_ HR1_0.out HB.out)|(with_reducible refine Kd.C_alloc ?_ _)|(with_reducible refine Kd.C_drewN ?_ _)|(with_reducible refine Kd.C_drew ?_)));(case side2=>exact HC1_0.out);(case side3=>repeat (first|exact (cB_ HR1_1.out HB.out)|(with_reducible refine Kd.C_alloc ?_ _)|(with_reducible refine Kd.C_drewN ?_ _)|(with_reducible refine Kd.C_drew ?_)));(case side4=>exact HC1_1.out);rintro e w8 ⟨rfl,hb⟩;have n0_:=am_ (bT_ (by repeat (first|(with_reducible first|exact HB.out|apply bA_|apply bN_|apply bD_)|exact HB.out)) hb);clear HB;have HB:=n0_;clear n0_;(try clear hb);(try clear hb2);(try clear hk);(try clear hi)))
       go_ret
       exact ⟨by first|rfl|(simp [errW_none,errW_some] <;> rfl)|(simp [*,errW_none,errW_some] <;> rfl),by repeat (first|(with_reducible first|exact HB.out|apply bA_|apply bN_|apply bD_)|exact HB.out)⟩
      ·
       replace c7:=Bool.eq_false_iff.mpr c7;subst c7;have H1 : (slices_IndexFunc_impl_Slab_at_impl_Square_at_1.l0 k1 l0 (l0.length : Int) (wrap64 (x8_1 + 1)) l1_0 l1_1) = some r:=by rw [if_neg (show ¬ (false = true) by decide)] at H;exact H
       clear H;have H:=H1;clear H1;have H':=am_ H;clear H;have p247 : 0≤(x8_1 : Int):=od_ (by first|(with_reducible assumption)|assumption);have q247 : x8_1 < (l0.length : Int):=od_ (by first|(with_reducible assumption)|assumption);obtain ⟨ad247,e247,hx247_0,hx247_1,hx247_2,hx247_3⟩:=at_T36 HR0.out x8_1 p247 q247
       cases e247
       replace hx247_0:=(HB.out.cell (bl_ w _ hx247_0)).trans hx247_0;replace hx247_1:=(HB.out.cell (bl_ w _ hx247_1)).trans hx247_1;replace hx247_2:=(HB.out.cell (bl_ w _ hx247_2)).trans hx247_2;replace hx247_3:=(HB.out.cell (bl_ w _ hx247_3)).trans hx247_3;replace p247:=eq_true p247;replace q247:=eq_true q247
       go_wp2_with (first|(go_at_call 43;(with_reducible refine (impl_Square_at_1.calls ((rd_T36 l0 x8_1).f0) ((rd_T36 l0 x8_1).f1) ((rd_T36 l0 x8_1).f2) ((rd_T36 l0 x8_1).f3) _ c1_0 l1_0 _ c1_1 l1_1 false _ ?side1 ?side2 ?side3 ?side4 A6.out).mono ?_);(case side1=>repeat (first|exact (cB_ HR1_0.out HB.out)|(with_reducible refine Kd.C_alloc ?_ _)|(with_reducible refine Kd.C_drewN ?_ _)|(with_reducible refine Kd.C_drew ?_)));(case side2=>exact HC1_0.out);(case side3=>repeat (first|exact (cB_ HR1_1.out HB.out)|(with_reducible refine Kd.C_alloc ?_ _)|(with_reducible refine Kd.C_drewN ?_ _)|(with_reducible refine Kd.C_drew ?_)));(case side4=>exact HC1_1.out);rintro e w9 ⟨rfl,hb⟩;have n0_:=am_ (bT_ (by repeat (first|(with_reducible first|exact HB.out|apply bA_|apply bN_|apply bD_)|exact HB.out)) hb);clear HB;have HB:=n0_;clear n0_;(try clear hb);(try clear hb2);(try clear hk);(try clear hi)))
       go_roundg k1
       case measure=>have:=HK1.out;omega
       case rel=>exact ⟨(wrap64 (x8_1 + 1)),(by first|rfl|(simp;done)|(simp [*];done)),H',⟨by have:=HK1.out;omega⟩,⟨by repeat (first|(with_reducible first|exact HB.out|apply bA_|apply bN_|apply bD_)|exact HB.out)⟩⟩
     ·
      rw [if_neg c5] at H;exact absurd H (by simp)
    ·
     rw [if_neg c4] at H;exact absurd H (by simp)
   ·
    rw [if_neg c3] at H;have c3b0 : decide (x8_1 < (l0.length : Int)) = false:=decide_eq_false c3;clear c3;obtain rfl:=Option.some.inj H
    go_wp2
    go_ret
    exact ⟨by first|rfl|(simp [errW_none,errW_some] <;> rfl)|(simp [*,errW_none,errW_some] <;> rfl),by repeat (first|(with_reducible first|exact HB.out|apply bA_|apply bN_|apply bD_)|exact HB.out)⟩
def impl_Square_at.f (k : Nat) (a0_0 : Int) (a0_1 : Int) (l0_2 : List (S36)) (a1 : Int) (a2 : Int) : Option (Int) := (slices_IndexFunc_impl_Slab_at_impl_Square_at_1.f k l0_2 [a1] [a2]).bind fun t252 => (some t252)
theorem impl_Square_at.mono : ∀ a0 a1 a2 a3 a4 k, LeO (impl_Square_at.f k a0 a1 a2 a3 a4) (impl_Square_at.f (k + 1) a0 a1 a2 a3 a4) := by
 intro a0 a1 a2 a3 a4 k
 unfold impl_Square_at.f
 repeat' first
   | (with_reducible exact slices_IndexFunc_impl_Slab_at_impl_Square_at_1.mono _ _ _ _)
   | (with_reducible exact LeO.refl _)
   | (with_reducible exact LeO.none _)
   | (with_reducible refine LeO.ite ?_ ?_)
   | (with_reducible refine LeO.bind ?_ (fun _=>?_))
   | exact slices_IndexFunc_impl_Slab_at_impl_Square_at_1.mono _ _ _ _
   | exact LeO.none _
   | refine LeO.ite ?_ ?_
   | refine LeO.bind ?_ (fun _=>?_)
set_option maxHeartbeats 8000000 in
set_option maxRecDepth 100000 in
theorem impl_Square_at.calls (k : Nat) (a0_0 : Int) (a0_1 : Int) (A0_2 : Option Addr) (c0_2 : Nat) (l0_2 : List (S36)) (a1 : Int) (a2 : Int) (r : Int) (w : World) (hr0_2 : Kd.C k36 w A0_2 l0_2.length l0_2) (hc0_2 : l0_2.length ≤ c0_2) (h : impl_Square_at.f k a0_0 a0_1 l0_2 a1 a2 = some r) :
  Calls Tryd.prog 29 #[.agg #[.int .i8 a0_0,.int .i8 a0_1,.slice A0_2 l0_2.length c0_2],.int .i64 a1,.int .i64 a2] w fun e w'=>e = .returned (.int .i64 r) ∧ Below w.heap.size w w':=by
 have hu25:=Tryd.underlying25;have HR0_2:=am_ hr0_2;have HC0_2:=am_ hc0_2;clear hr0_2 hc0_2;have HB:=am_ (Below.refl w.heap.size w);have H : ((slices_IndexFunc_impl_Slab_at_impl_Square_at_1.f k l0_2 [a1] [a2]).bind fun t252=>(some t252)) = some r:=h;clear h;replace H:=Option.bind_eq_some_iff.mp H;obtain ⟨t252,A40,H⟩:=H;replace H : (some t252) = some r:=H;have A4:=am_ A40;clear A40;obtain rfl:=Option.some.inj H
 go_enter Tryd.func29,Tryd.ntmps29
 go_wp2_with (first|((with_reducible refine gate_dst (N:=3) rfl ?_);refine box_event ?hg (N:=3) ?hd (cs:=#[.int .i8 a0_0,.int .i8 a0_1,.slice A0_2 l0_2.length c0_2]) (t:=25) ?hr ?_;(case hd=>rfl);(case hg=>rfl);(case hr=>first|(go_simp;done)|(go_simp;rfl));intro gb249 hg w5 hbox hb;have n0_:=am_ (bT_ (by repeat (first|(with_reducible first|exact HB.out|apply bA_|apply bN_|apply bD_)|exact HB.out)) hb);have n1_:=am_ (hbox);have n2_:=am_ ((by rw [hg];exact (bZ_ (by repeat (first|(with_reducible first|exact HB.out|apply bA_|apply bN_|apply bD_)|exact HB.out))) : w.heap.size≤gb249));have n3_:=n2_;clear HB;have HB:=n0_;have BK249:=n1_;have GW249:=n2_;have GE249:=n3_;clear n0_ n1_ n2_ n3_;clear hb hbox hg)|((with_reducible refine gate_dst (N:=4) rfl ?_);refine box_event ?hg (N:=4) ?hd (cs:=#[.int .i64 a1]) (t:=3) ?hr ?_;(case hd=>rfl);(case hg=>rfl);(case hr=>first|(go_simp;done)|(go_simp;rfl));intro gb250 hg w6 hbox hb;have n0_:=am_ (kB_ (g:=gb249) (o:=.cells #[.int .i8 a0_0,.int .i8 a0_1,.slice A0_2 l0_2.length c0_2] 25 (0,0)) (by (with_reducible repeat (first|apply kN_|apply kD_|apply kA_));exact BK249.out) hb);have n1_:=am_ (bT_ (by repeat (first|(with_reducible first|exact HB.out|apply bA_|apply bN_|apply bD_|refine bS_ ?_ GE249.out)|exact HB.out)) hb);have n2_:=am_ (hbox);have n3_:=am_ ((by rw [hg];exact (bZ_ (by repeat (first|(with_reducible first|exact HB.out|apply bA_|apply bN_|apply bD_|refine bS_ ?_ GE249.out)|exact HB.out))) : w.heap.size≤gb250));have n4_:=n3_;have n5_:=am_ ((by rw [hg];exact nL_ (kL_ (g:=gb249) (o:=.cells #[.int .i8 a0_0,.int .i8 a0_1,.slice A0_2 l0_2.length c0_2] 25 (0,0)) (by (with_reducible repeat (first|apply kN_|apply kD_|apply kA_));exact BK249.out)) : gb249 ≠ gb250));have n6_:=am_ ((by rw [hg];exact nG_ (kL_ (g:=gb249) (o:=.cells #[.int .i8 a0_0,.int .i8 a0_1,.slice A0_2 l0_2.length c0_2] 25 (0,0)) (by (with_reducible repeat (first|apply kN_|apply kD_|apply kA_));exact BK249.out)) : gb250 ≠ gb249));clear BK249;clear HB;have BK249:=n0_;have HB:=n1_;have BK250:=n2_;have GW250:=n3_;have GE250:=n4_;have NB249_250:=n5_;have NB250_249:=n6_;clear n0_ n1_ n2_ n3_ n4_ n5_ n6_;clear hb hbox hg)|((with_reducible refine gate_dst (N:=5) rfl ?_);refine box_event ?hg (N:=5) ?hd (cs:=#[.int .i64 a2]) (t:=3) ?hr ?_;(case hd=>rfl);(case hg=>rfl);(case hr=>first|(go_simp;done)|(go_simp;rfl));intro gb251 hg w7 hbox hb;have n0_:=am_ (kB_ (g:=gb249) (o:=.cells #[.int .i8 a0_0,.int .i8 a0_1,.slice A0_2 l0_2.length c0_2] 25 (0,0)) (by (with_reducible repeat (first|apply kN_|apply kD_|apply kA_));exact BK249.out) hb);have n1_:=am_ (kB_ (g:=gb250) (o:=.cells #[.int .i64 a1] 3 (0,0)) (by (with_reducible repeat (first|apply kN_|apply kD_|apply kA_));exact BK250.out) hb);have n2_:=am_ (bT_ (by repeat (first|(with_reducible first|exact HB.out|apply bA_|apply bN_|apply bD_|refine bS_ ?_ GE249.out|refine bS_ ?_ GE250.out)|exact HB.out)) hb);have n3_:=am_ (hbox);have n4_:=am_ ((by rw [hg];exact (bZ_ (by repeat (first|(with_reducible first|exact HB.out|apply bA_|apply bN_|apply bD_|refine bS_ ?_ GE249.out|refine bS_ ?_ GE250.out)|exact HB.out))) : w.heap.size≤gb251));have n5_:=n4_;have n6_:=am_ ((by rw [hg];exact nL_ (kL_ (g:=gb249) (o:=.cells #[.int .i8 a0_0,.int .i8 a0_1,.slice A0_2 l0_2.length c0_2] 25 (0,0)) (by (with_reducible repeat (first|apply kN_|apply kD_|apply kA_));exact BK249.out)) : gb249 ≠ gb251));have n7_:=am_ ((by rw [hg];exact nG_ (kL_ (g:=gb249) (o:=.cells #[.int .i8 a0_0,.int .i8 a0_1,.slice A0_2 l0_2.length c0_2] 25 (0,0)) (by (with_reducible repeat (first|apply kN_|apply kD_|apply kA_));exact BK249.out)) : gb251 ≠ gb249));have n8_:=am_ ((by rw [hg];exact nL_ (kL_ (g:=gb250) (o:=.cells #[.int .i64 a1] 3 (0,0)) (by (with_reducible repeat (first|apply kN_|apply kD_|apply kA_));exact BK250.out)) : gb250 ≠ gb251));have n9_:=am_ ((by rw [hg];exact nG_ (kL_ (g:=gb250) (o:=.cells #[.int .i64 a1] 3 (0,0)) (by (with_reducible repeat (first|apply kN_|apply kD_|apply kA_));exact BK250.out)) : gb251 ≠ gb250));clear BK249;clear BK250;clear HB;have BK249:=n0_;have BK250:=n1_;have HB:=n2_;have BK251:=n3_;have GW251:=n4_;have GE251:=n5_;have NB249_251:=n6_;have NB251_249:=n7_;have NB250_251:=n8_;have NB251_250:=n9_;clear n0_ n1_ n2_ n3_ n4_ n5_ n6_ n7_ n8_ n9_;clear hb hbox hg;have hnb8:=NB249_250.out;have hnc8:=NB250_249.out;have hnb9:=NB249_251.out;have hnc9:=NB251_249.out;have hcz10_0 : w7.cell? ⟨gb249,0,none⟩ = some (.int .i8 a0_0):=(kC_ BK249.out 0).trans rfl;have hcz10_1 : w7.cell? ⟨gb249,1,none⟩ = some (.int .i8 a0_1):=(kC_ BK249.out 1).trans rfl;have hcz10_2 : w7.cell? ⟨gb249,2,none⟩ = some (.slice A0_2 l0_2.length c0_2):=(kC_ BK249.out 2).trans rfl;have hfz10_0:=kF_ BK249.out 0;have hfz10_1:=kF_ BK249.out 1;have hfz10_2:=kF_ BK249.out 2)|((with_reducible refine gate_callee (f:=42) rfl ?_);refine goesL_ (some 10) rfl rfl Tryd.func42 (by kernel_rfl) rfl #[.slice A0_2 l0_2.length c0_2,.func (.func 43) #[] #[.pointer (some ⟨gb250,0,none⟩),.pointer (some ⟨gb251,0,none⟩)]] rfl (by (try simp only [List.map_toArray,List.map_cons,List.map_nil]);first|done|rfl|(simp only [List.length_drop,List.length_take];rfl)) ?_;(with_reducible refine (slices_IndexFunc_impl_Slab_at_impl_Square_at_1.calls k _ _ l0_2 _ 1 [a1] _ 1 [a2] t252 _ ?side1 ?side2 ?side3 ?side4 ?side5 ?side6 A4.out).mono ?_);(case side1=>repeat (first|exact (cB_ HR0_2.out HB.out)|(with_reducible refine Kd.C_alloc ?_ _)|(with_reducible refine Kd.C_drewN ?_ _)|(with_reducible refine Kd.C_drew ?_)));(case side2=>exact HC0_2.out);(case side3=>exact Kd.C_one_ (by (with_reducible repeat (first|apply kN_|apply kD_|apply kA_));exact BK250.out) rfl);(case side4=>exact Nat.le_refl _);(case side5=>exact Kd.C_one_ (by (with_reducible repeat (first|apply kN_|apply kD_|apply kA_));exact BK251.out) rfl);(case side6=>exact Nat.le_refl _);rintro e w11 ⟨rfl,hb⟩;refine ⟨_,rfl,?_⟩;have n0_:=am_ (kB_ (g:=gb249) (o:=.cells #[.int .i8 a0_0,.int .i8 a0_1,.slice A0_2 l0_2.length c0_2] 25 (0,0)) (by (with_reducible repeat (first|apply kN_|apply kD_|apply kA_));exact BK249.out) hb);have n1_:=am_ (kB_ (g:=gb250) (o:=.cells #[.int .i64 a1] 3 (0,0)) (by (with_reducible repeat (first|apply kN_|apply kD_|apply kA_));exact BK250.out) hb);have n2_:=am_ (kB_ (g:=gb251) (o:=.cells #[.int .i64 a2] 3 (0,0)) (by (with_reducible repeat (first|apply kN_|apply kD_|apply kA_));exact BK251.out) hb);have n3_:=am_ (bT_ (by repeat (first|(with_reducible first|exact HB.out|apply bA_|apply bN_|apply bD_|refine bS_ ?_ GE249.out|refine bS_ ?_ GE250.out|refine bS_ ?_ GE251.out)|exact HB.out)) hb);clear BK249;clear BK250;clear BK251;clear HB;have BK249:=n0_;have BK250:=n1_;have BK251:=n2_;have HB:=n3_;clear n0_ n1_ n2_ n3_;(try clear hb);(try clear hb2);(try clear hk);(try clear hi)))
 go_ret
 exact ⟨by first|rfl|(simp [errW_none,errW_some] <;> rfl)|(simp [*,errW_none,errW_some] <;> rfl),by repeat (first|(with_reducible first|exact HB.out|apply bA_|apply bN_|apply bD_|refine bS_ ?_ GE249.out|refine bS_ ?_ GE250.out|refine bS_ ?_ GE251.out)|exact HB.out)⟩
end Go.Proofs.YteinapckfhpdkaaDoor.Q
