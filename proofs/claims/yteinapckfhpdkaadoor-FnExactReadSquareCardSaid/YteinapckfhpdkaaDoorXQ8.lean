-- Trimmed by a program.
import Derived.Test.YteinapckfhpdkaaDoorXQ0
import Derived.Ground.NamesProg
import Derived.Shelf.Strings.SplitShaped
import Derived.Test.YteinapckfhpdkaaDoorXQHdG
namespace Go.Proofs.YteinapckfhpdkaaDoor.Q
open Go.RowKit Go.Proofs.YteinapckfhpdkaaDoorW.PrintWords Go.Proofs.YteinapckfhpdkaaDoorW.PrintLast Go.Proofs.YteinapckfhpdkaaDoorW.PrintMore
attribute [local go_sem] max2_int min2_int max_two min_two max_three min_three max_four min_four
set_option linter.unusedVariables false
set_option linter.unusedSimpArgs false
section
open Go.Shelf
def strings_Split_lays_ren : Go.Shelf.Ren := ⟨fun | 146 => 14 | 221 => 25 | 268 => 33 | 138 => 34 | 143 => 35 | 195 => 45 | 197 => 46 | 218 => 47 | 219 => 48 | 260 => 51 | 217 => 27 | 225 => 52 | 224 => 53 | 267 => 54 | 266 => 37 | 314 => 57 | n => n, fun | 9 => 9 | 31 => 31 | 3 => 3 | 4 => 4 | 0 => 0 | 105 => 70 | 21 => 21 | 5 => 5 | 46 => 77 | 119 => 80 | 139 => 83 | 138 => 82 | 146 => 85 | 51 => 84 | n => n, fun | 1 => 0 | 3 => 1 | 4 => 2 | n => n⟩
theorem strings_Split_lays : Go.Proofs.LaysM.n146 Tryd.prog strings_Split_lays_ren := {
 mixed:=by kernel_rfl
 f138:=Tryd.func34.trans (congrArg some (by kernel_rfl))
 f143:=Tryd.func35.trans (congrArg some (by kernel_rfl))
 f146:=Tryd.func14.trans (congrArg some (by kernel_rfl))
 f195:=Tryd.func45.trans (congrArg some (by kernel_rfl))
 f197:=Tryd.func46.trans (congrArg some (by kernel_rfl))
 f217:=Tryd.func27.trans (congrArg some (by kernel_rfl))
 f218:=Tryd.func47.trans (congrArg some (by kernel_rfl))
 f219:=Tryd.func48.trans (congrArg some (by kernel_rfl))
 f221:=Tryd.func25.trans (congrArg some (by kernel_rfl))
 f224:=Tryd.func53.trans (congrArg some (by kernel_rfl))
 f225:=Tryd.func52.trans (congrArg some (by kernel_rfl))
 f260:=Tryd.func51.trans (congrArg some (by kernel_rfl))
 f266:=Tryd.func37.trans (congrArg some (by kernel_rfl))
 f267:=Tryd.func54.trans (congrArg some (by kernel_rfl))
 f268:=Tryd.func33.trans (congrArg some (by kernel_rfl))
 f314:=Tryd.func57.trans (congrArg some (by kernel_rfl))
 t0:=Tryd.underlying0
 a0:=Tryd.isAgg0
 z0:=Tryd.sizeOf0
 v0:=Tryd.zeroValue0
 t3:=Tryd.underlying3
 a3:=Tryd.isAgg3
 z3:=Tryd.sizeOf3
 v3:=Tryd.zeroValue3
 t4:=Tryd.underlying4
 a4:=Tryd.isAgg4
 z4:=Tryd.sizeOf4
 v4:=Tryd.zeroValue4
 t5:=Tryd.underlying5
 a5:=Tryd.isAgg5
 z5:=Tryd.sizeOf5
 v5:=Tryd.zeroValue5
 t9:=Tryd.underlying9
 a9:=Tryd.isAgg9
 z9:=Tryd.sizeOf9
 v9:=Tryd.zeroValue9
 t21:=Tryd.underlying21
 a21:=Tryd.isAgg21
 z21:=Tryd.sizeOf21
 v21:=Tryd.zeroValue21
 t31:=Tryd.underlying31
 a31:=Tryd.isAgg31
 z31:=Tryd.sizeOf31
 v31:=Tryd.zeroValue31
 t46:=Tryd.underlying77
 a46:=Tryd.isAgg77
 z46:=Tryd.sizeOf77
 v46:=Tryd.zeroValue77
 t51:=Tryd.underlying84
 a51:=Tryd.isAgg84
 z51:=Tryd.sizeOf84
 v51:=Tryd.zeroValue84
 t105:=Tryd.underlying70
 a105:=Tryd.isAgg70
 z105:=Tryd.sizeOf70
 v105:=Tryd.zeroValue70
 t119:=Tryd.underlying80
 a119:=Tryd.isAgg80
 z119:=Tryd.sizeOf80
 t138:=Tryd.underlying82
 a138:=Tryd.isAgg82
 z138:=Tryd.sizeOf82
 v138:=Tryd.zeroValue82
 t139:=Tryd.underlying83
 a139:=Tryd.isAgg83
 z139:=Tryd.sizeOf83
 v139:=Tryd.zeroValue83
 t146:=Tryd.underlying85
 a146:=Tryd.isAgg85
 z146:=Tryd.sizeOf85
 v146:=Tryd.zeroValue85
 g1:=by kernel_rfl
 g3:=by kernel_rfl
 g4:=by kernel_rfl
 i0:=by kernel_rfl
 i3:=by kernel_rfl
 i4:=by kernel_rfl
 i5:=by kernel_rfl
 i9:=by kernel_rfl
 i21:=by kernel_rfl
 i31:=by kernel_rfl
 i46:=by kernel_rfl
 i51:=by kernel_rfl
 i105:=by kernel_rfl
 i138:=by kernel_rfl
 i139:=by kernel_rfl
 i146:=by kernel_rfl
 m1:=by kernel_rfl
 s1_3:=fun w h=>Go.Proofs.cell_of_shapedOpen_int (zero:=#[.int .i64 0]) (t:=3) h (od_ (by kernel_rfl)) (by kernel_rfl) rfl (by kernel_rfl) (by kernel_rfl) Tryd.underlying3
 m3:=by kernel_rfl
 m4:=by kernel_rfl }
end
def strings_Split.f (a0 a1 : ByteArray) : Option (List ByteArray) := if a0.size < 4294967281 ∧ 1 ≤ a1.size then some (Go.Lib.splitB a1 0 (Go.Lib.countB a0 a1) a0) else none
set_option maxHeartbeats 8000000 in
set_option maxRecDepth 100000 in
theorem strings_Split.calls (a0 a1 : ByteArray) (r : List ByteArray) (w : World) (HW : Hd w) (h : strings_Split.f a0 a1 = some r) :
  Calls Tryd.prog 14 #[.string a0,.string a1] w fun e w'=>∃ v0_ : Value,e = .returned v0_ ∧ Kd.R Kd.string 9 w' w.heap.size (fun _=>True) v0_ r ∧ Below w.heap.size w w':=by
 unfold strings_Split.f at h
 by_cases c : a0.size < 4294967281 ∧ 1≤a1.size
 ·
  rw [if_pos c] at h;obtain rfl:=Option.some.inj h;obtain ⟨m,hm⟩:=HW.len;have hl:=Go.Lib.splitB_all a1 c.2 0 _ a0 rfl;have hle:=Go.Lib.countB_le a1 c.2 a0.size a0 (Nat.le_refl _);refine Calls.mono (show Calls Tryd.prog 14 #[.string a0,.string a1] w _ from Go.Proofs.Any.strings_Split { strings_Split_lays with } strings_Split_lays.i9 a0 a1 m w c.1 hm c.2) ?_;rintro e w' ⟨rfl,rfl⟩;have hR:=strs_R w (Go.Lib.splitB a1 0 (Go.Lib.countB a0 a1) a0) (by omega);rw [hl] at hR;exact ⟨_,rfl,hR,Below.alloc (Below.refl _ _) (Nat.le_refl _) _⟩
 ·
  rw [if_neg c] at h
  cases h
def impl_within.f (a0 : Int) (a1 : Int) (a2 : Int) : Option (Bool) := if a1 ≤ a0 then (some (decide (a0 ≤ a2))) else (some false)
set_option maxHeartbeats 8000000 in
set_option maxRecDepth 100000 in
theorem impl_within.calls (a0 : Int) (a1 : Int) (a2 : Int) (r : Bool) (w : World) (h : impl_within.f a0 a1 a2 = some r) :
  Calls Tryd.prog 36 #[.int .i64 a0,.int .i64 a1,.int .i64 a2] w fun e w'=>e = .returned (.bool r) ∧ Drawn0 w w':=by
 have H : (if a1≤a0 then (some (decide (a0≤a2))) else (some false)) = some r:=h;clear h
 by_cases c4 : a1≤a0
 ·
  rw [if_pos c4] at H;have c4b0 : decide (a1≤a0) = true:=decide_eq_true c4;clear c4;obtain rfl:=Option.some.inj H
  go_enter Tryd.func36,Tryd.ntmps36
  go_wp2
  go_ret
  exact ⟨by first|rfl|(simp;done)|(simp [*];done),by repeat (first|exact Drawn0.refl _|apply Drawn0.step)⟩
 ·
  rw [if_neg c4] at H;have c4b0 : decide (a1≤a0) = false:=decide_eq_false c4;clear c4;obtain rfl:=Option.some.inj H
  go_enter Tryd.func36,Tryd.ntmps36
  go_wp2
  go_ret
  exact ⟨by first|rfl|(simp;done)|(simp [*];done),by repeat (first|exact Drawn0.refl _|apply Drawn0.step)⟩
def impl_isEdge.f (a0 : Int) : Option (Bool) := (impl_within.f a0 1 12).bind fun t185 => (some t185)
set_option maxHeartbeats 8000000 in
set_option maxRecDepth 100000 in
theorem impl_isEdge.calls (a0 : Int) (r : Bool) (w : World) (h : impl_isEdge.f a0 = some r) :
  Calls Tryd.prog 26 #[.int .i64 a0] w fun e w'=>e = .returned (.bool r) ∧ Drawn0 w w':=by
 have H : ((impl_within.f a0 1 12).bind fun t185=>(some t185)) = some r:=h;clear h;replace H:=Option.bind_eq_some_iff.mp H;obtain ⟨t185,A20,H⟩:=H;replace H : (some t185) = some r:=H;have A2:=am_ A20;clear A20;obtain rfl:=Option.some.inj H
 go_enter Tryd.func26,Tryd.ntmps26
 go_wp2_with (first|((with_reducible refine gate_callee (f:=36) rfl ?_);refine goesL_ (some 4) rfl rfl Tryd.func36 (by kernel_rfl) rfl #[.int .i64 a0,.int .i64 1,.int .i64 12] rfl (by (try simp only [List.map_toArray,List.map_cons,List.map_nil]);first|done|rfl|(simp only [List.length_drop,List.length_take];rfl)) ?_;(with_reducible refine (impl_within.calls a0 1 12 t185 _ A2.out).mono ?_);rintro e w' ⟨rfl,⟨nd,rfl⟩⟩;refine ⟨_,rfl,?_⟩))
 go_ret
 exact ⟨by first|rfl|(simp;done)|(simp [*];done),by repeat (first|exact Drawn0.refl _|apply Drawn0.step)⟩
def impl_OpenSquare.f (a0 : Int) (a1 : Int) : Option (Int × Int × (List (S36)) × Int) := (impl_isEdge.f a0).bind fun t187 => (if t187 = true then ((impl_isEdge.f a1).bind fun t188 => (if t188 = true then (some (IntKind.i8.wrap (a0), IntKind.i8.wrap (a1), ([] : List (S36)), 0)) else (some (0, 0, ([] : List (S36)), 2)))) else (some (0, 0, ([] : List (S36)), 2)))
set_option maxHeartbeats 8000000 in
set_option maxRecDepth 100000 in
theorem impl_OpenSquare.calls (a0 : Int) (a1 : Int) (r1 : Int) (r2 : Int) (r3 : List (S36)) (r4 : Int) (w : World) (h : impl_OpenSquare.f a0 a1 = some (r1, r2, r3, r4)) :
  Calls Tryd.prog 15 #[.int .i64 a0,.int .i64 a1] w fun e w'=>∃ v2_ : Value,e = .returned (.tuple #[.agg #[.int .i8 r1,.int .i8 r2,v2_],.int .i64 r4]) ∧ Kd.R k36 36 w' w.heap.size (fun _=>True) v2_ r3 ∧ Below w.heap.size w w':=by
 have hu25:=Tryd.underlying25;have HB:=am_ (Below.refl w.heap.size w);have H : ((impl_isEdge.f a0).bind fun t187=>(if t187 = true then ((impl_isEdge.f a1).bind fun t188=>(if t188 = true then (some (IntKind.i8.wrap (a0),IntKind.i8.wrap (a1),([] : List (S36)),0)) else (some (0,0,([] : List (S36)),2)))) else (some (0,0,([] : List (S36)),2)))) = some (r1,r2,r3,r4):=h;clear h;replace H:=Option.bind_eq_some_iff.mp H;obtain ⟨t187,A30,H⟩:=H;replace H : (if t187 = true then ((impl_isEdge.f a1).bind fun t188=>(if t188 = true then (some (IntKind.i8.wrap (a0),IntKind.i8.wrap (a1),([] : List (S36)),0)) else (some (0,0,([] : List (S36)),2)))) else (some (0,0,([] : List (S36)),2))) = some (r1,r2,r3,r4):=H;have A3:=am_ A30;clear A30
 by_cases c4 : t187 = true
 ·
  subst c4;have H1 : ((impl_isEdge.f a1).bind fun t188=>(if t188 = true then (some (IntKind.i8.wrap (a0),IntKind.i8.wrap (a1),([] : List (S36)),0)) else (some (0,0,([] : List (S36)),2)))) = some (r1,r2,r3,r4):=by rw [if_pos rfl] at H;exact H
  clear H;have H:=H1;clear H1;replace H:=Option.bind_eq_some_iff.mp H;obtain ⟨t188,A50,H⟩:=H;replace H : (if t188 = true then (some (IntKind.i8.wrap (a0),IntKind.i8.wrap (a1),([] : List (S36)),0)) else (some (0,0,([] : List (S36)),2))) = some (r1,r2,r3,r4):=H;have A5:=am_ A50;clear A50
  by_cases c6 : t188 = true
  ·
   subst c6;have H1 : (some (IntKind.i8.wrap (a0),IntKind.i8.wrap (a1),([] : List (S36)),0)) = some (r1,r2,r3,r4):=by rw [if_pos rfl] at H;exact H
   clear H;have H:=H1;clear H1;simp only [Option.some.injEq,Prod.mk.injEq] at H;obtain ⟨rfl,rfl,rfl,rfl⟩:=H
   go_enter Tryd.func15,Tryd.ntmps15
   go_wp2_with (first|((with_reducible refine gate_dst (N:=4) rfl ?_);refine box_event ?hg (N:=4) ?hd (cs:=#[.int .i8 0,.int .i8 0,.slice none 0 0]) (t:=25) ?hr ?_;(case hd=>rfl);(case hg=>rfl);(case hr=>first|(go_simp;done)|(go_simp;rfl));intro gb186 hg w7 hbox hb;have n0_:=am_ (bT_ (by repeat (first|(with_reducible first|exact HB.out|apply bA_|apply bN_|apply bD_)|exact HB.out)) hb);have n1_:=am_ (hbox);have n2_:=am_ ((by rw [hg];exact (bZ_ (by repeat (first|(with_reducible first|exact HB.out|apply bA_|apply bN_|apply bD_)|exact HB.out))) : w.heap.size≤gb186));have n3_:=n2_;clear HB;have HB:=n0_;have BK186:=n1_;have GW186:=n2_;have GE186:=n3_;clear n0_ n1_ n2_ n3_;clear hb hbox hg)|((with_reducible refine gate_callee (f:=26) rfl ?_);refine goesL_ (some 7) rfl rfl Tryd.func26 (by kernel_rfl) rfl #[.int .i64 a0] rfl (by (try simp only [List.map_toArray,List.map_cons,List.map_nil]);first|done|rfl|(simp only [List.length_drop,List.length_take];rfl)) ?_;(with_reducible refine (impl_isEdge.calls a0 true _ A3.out).mono ?_);rintro e w' ⟨rfl,⟨nd,rfl⟩⟩;refine ⟨_,rfl,?_⟩;(try (rw [drewN_self w7];generalize hq_ : World.drewN w7 _ = w7;have n0_ : Aside0 (w7.heap[gb186]? = some (.cells #[.int .i8 0,.int .i8 0,.slice none 0 0] 25 (0,0))):=⟨by rw [← hq_];exact (by (with_reducible repeat (first|apply kN_|apply kD_|apply kA_));exact BK186.out)⟩;have n1_ : Aside0 (Below w.heap.size w w7):=⟨by rw [← hq_];exact (by repeat (first|(with_reducible first|exact HB.out|apply bA_|apply bN_|apply bD_|refine bS_ ?_ GE186.out)|exact HB.out))⟩;clear BK186 HB hq_;have BK186:=n0_;have HB:=n1_;clear n0_ n1_)))|(go_at_call 26;(with_reducible refine (impl_isEdge.calls a1 true _ A5.out).mono ?_);rintro e w' ⟨rfl,⟨nd,rfl⟩⟩;(try (rw [drewN_self w7];generalize hq_ : World.drewN w7 _ = w7;have n0_ : Aside0 (w7.heap[gb186]? = some (.cells #[.int .i8 0,.int .i8 0,.slice none 0 0] 25 (0,0))):=⟨by rw [← hq_];exact (by (with_reducible repeat (first|apply kN_|apply kD_|apply kA_));exact BK186.out)⟩;have n1_ : Aside0 (Below w.heap.size w w7):=⟨by rw [← hq_];exact (by repeat (first|(with_reducible first|exact HB.out|apply bA_|apply bN_|apply bD_|refine bS_ ?_ GE186.out)|exact HB.out))⟩;clear BK186 HB hq_;have BK186:=n0_;have HB:=n1_;clear n0_ n1_));have hcz8_0 : w7.cell? ⟨gb186,0,none⟩ = some (.int .i8 0):=(kC_ BK186.out 0).trans rfl;have hcz8_1 : w7.cell? ⟨gb186,1,none⟩ = some (.int .i8 0):=(kC_ BK186.out 1).trans rfl;have hcz8_2 : w7.cell? ⟨gb186,2,none⟩ = some (.slice none 0 0):=(kC_ BK186.out 2).trans rfl;have hfz8_0:=kF_ BK186.out 0;have hfz8_1:=kF_ BK186.out 1;have hfz8_2:=kF_ BK186.out 2))
   refine bodyPost_ret (results_ct rfl _ _ gb186 25 #[.int .i8 (IntKind.i8.wrap (a0)),.int .i8 (IntKind.i8.wrap (a1)),.slice none 0 0] (0,0) _ rfl (by (with_reducible repeat (first|apply kN_|apply kD_|apply kA_));refine blk_put (cs:=#[.int .i8 (IntKind.i8.wrap (a0)),.int .i8 (IntKind.i8.wrap (a1)),.slice none 0 0]) ?_ 2 _ rfl;(with_reducible repeat (first|apply kN_|apply kD_|apply kA_));refine blk_put (cs:=#[.int .i8 (IntKind.i8.wrap (a0)),.int .i8 0,.slice none 0 0]) ?_ 1 _ rfl;(with_reducible repeat (first|apply kN_|apply kD_|apply kA_));refine blk_put (cs:=#[.int .i8 0,.int .i8 0,.slice none 0 0]) ?_ 0 _ rfl;(with_reducible repeat (first|apply kN_|apply kD_|apply kA_));exact BK186.out) Tryd.underlying25 rfl (by kernel_rfl)) rfl ?_;exact ⟨_,by first|rfl|(simp [errW_none,errW_some] <;> rfl)|(simp [*,errW_none,errW_some] <;> rfl),by first|exact Kd.R_nil _ _ _ _ _|exact Kd.N_nil _ _ _ _ _|exact Kd.V_nil _ _ _ _ _|exact Kd.Q_nil _ _ _ _ _|exact Kd.S_nil _ _ _ _ _,by repeat (first|(with_reducible first|exact HB.out|apply bA_|apply bN_|apply bD_|refine bS_ ?_ GE186.out)|exact HB.out)⟩
  ·
   replace c6:=Bool.eq_false_iff.mpr c6;subst c6;have H1 : (some (0,0,([] : List (S36)),2)) = some (r1,r2,r3,r4):=by rw [if_neg (show ¬ (false = true) by decide)] at H;exact H
   clear H;have H:=H1;clear H1;simp only [Option.some.injEq,Prod.mk.injEq] at H;obtain ⟨rfl,rfl,rfl,rfl⟩:=H
   go_enter Tryd.func15,Tryd.ntmps15
   go_wp2_with (first|((with_reducible refine gate_dst (N:=4) rfl ?_);refine box_event ?hg (N:=4) ?hd (cs:=#[.int .i8 0,.int .i8 0,.slice none 0 0]) (t:=25) ?hr ?_;(case hd=>rfl);(case hg=>rfl);(case hr=>first|(go_simp;done)|(go_simp;rfl));intro gb186 hg w9 hbox hb;have n0_:=am_ (bT_ (by repeat (first|(with_reducible first|exact HB.out|apply bA_|apply bN_|apply bD_)|exact HB.out)) hb);have n1_:=am_ (hbox);have n2_:=am_ ((by rw [hg];exact (bZ_ (by repeat (first|(with_reducible first|exact HB.out|apply bA_|apply bN_|apply bD_)|exact HB.out))) : w.heap.size≤gb186));have n3_:=n2_;clear HB;have HB:=n0_;have BK186:=n1_;have GW186:=n2_;have GE186:=n3_;clear n0_ n1_ n2_ n3_;clear hb hbox hg)|((with_reducible refine gate_callee (f:=26) rfl ?_);refine goesL_ (some 7) rfl rfl Tryd.func26 (by kernel_rfl) rfl #[.int .i64 a0] rfl (by (try simp only [List.map_toArray,List.map_cons,List.map_nil]);first|done|rfl|(simp only [List.length_drop,List.length_take];rfl)) ?_;(with_reducible refine (impl_isEdge.calls a0 true _ A3.out).mono ?_);rintro e w' ⟨rfl,⟨nd,rfl⟩⟩;refine ⟨_,rfl,?_⟩;(try (rw [drewN_self w9];generalize hq_ : World.drewN w9 _ = w9;have n0_ : Aside0 (w9.heap[gb186]? = some (.cells #[.int .i8 0,.int .i8 0,.slice none 0 0] 25 (0,0))):=⟨by rw [← hq_];exact (by (with_reducible repeat (first|apply kN_|apply kD_|apply kA_));exact BK186.out)⟩;have n1_ : Aside0 (Below w.heap.size w w9):=⟨by rw [← hq_];exact (by repeat (first|(with_reducible first|exact HB.out|apply bA_|apply bN_|apply bD_|refine bS_ ?_ GE186.out)|exact HB.out))⟩;clear BK186 HB hq_;have BK186:=n0_;have HB:=n1_;clear n0_ n1_)))|(go_at_call 26;(with_reducible refine (impl_isEdge.calls a1 false _ A5.out).mono ?_);rintro e w' ⟨rfl,⟨nd,rfl⟩⟩;(try (rw [drewN_self w9];generalize hq_ : World.drewN w9 _ = w9;have n0_ : Aside0 (w9.heap[gb186]? = some (.cells #[.int .i8 0,.int .i8 0,.slice none 0 0] 25 (0,0))):=⟨by rw [← hq_];exact (by (with_reducible repeat (first|apply kN_|apply kD_|apply kA_));exact BK186.out)⟩;have n1_ : Aside0 (Below w.heap.size w w9):=⟨by rw [← hq_];exact (by repeat (first|(with_reducible first|exact HB.out|apply bA_|apply bN_|apply bD_|refine bS_ ?_ GE186.out)|exact HB.out))⟩;clear BK186 HB hq_;have BK186:=n0_;have HB:=n1_;clear n0_ n1_));have hcz10_0 : w9.cell? ⟨gb186,0,none⟩ = some (.int .i8 0):=(kC_ BK186.out 0).trans rfl;have hcz10_1 : w9.cell? ⟨gb186,1,none⟩ = some (.int .i8 0):=(kC_ BK186.out 1).trans rfl;have hcz10_2 : w9.cell? ⟨gb186,2,none⟩ = some (.slice none 0 0):=(kC_ BK186.out 2).trans rfl;have hfz10_0:=kF_ BK186.out 0;have hfz10_1:=kF_ BK186.out 1;have hfz10_2:=kF_ BK186.out 2))
   refine bodyPost_ret (results_ct rfl _ _ gb186 25 #[.int .i8 0,.int .i8 0,.slice none 0 0] (0,0) _ rfl (by (with_reducible repeat (first|apply kN_|apply kD_|apply kA_));refine blk_put (cs:=#[.int .i8 0,.int .i8 0,.slice none 0 0]) ?_ 2 _ rfl;(with_reducible repeat (first|apply kN_|apply kD_|apply kA_));refine blk_put (cs:=#[.int .i8 0,.int .i8 0,.slice none 0 0]) ?_ 1 _ rfl;(with_reducible repeat (first|apply kN_|apply kD_|apply kA_));refine blk_put (cs:=#[.int .i8 0,.int .i8 0,.slice none 0 0]) ?_ 0 _ rfl;(with_reducible repeat (first|apply kN_|apply kD_|apply kA_));exact BK186.out) Tryd.underlying25 rfl (by kernel_rfl)) rfl ?_;exact ⟨_,by first|rfl|(simp [errW_none,errW_some] <;> rfl)|(simp [*,errW_none,errW_some] <;> rfl),by first|exact Kd.R_nil _ _ _ _ _|exact Kd.N_nil _ _ _ _ _|exact Kd.V_nil _ _ _ _ _|exact Kd.Q_nil _ _ _ _ _|exact Kd.S_nil _ _ _ _ _,by repeat (first|(with_reducible first|exact HB.out|apply bA_|apply bN_|apply bD_|refine bS_ ?_ GE186.out)|exact HB.out)⟩
 ·
  replace c4:=Bool.eq_false_iff.mpr c4;subst c4;have H1 : (some (0,0,([] : List (S36)),2)) = some (r1,r2,r3,r4):=by rw [if_neg (show ¬ (false = true) by decide)] at H;exact H
  clear H;have H:=H1;clear H1;simp only [Option.some.injEq,Prod.mk.injEq] at H;obtain ⟨rfl,rfl,rfl,rfl⟩:=H
  go_enter Tryd.func15,Tryd.ntmps15
  go_wp2_with (first|((with_reducible refine gate_dst (N:=4) rfl ?_);refine box_event ?hg (N:=4) ?hd (cs:=#[.int .i8 0,.int .i8 0,.slice none 0 0]) (t:=25) ?hr ?_;(case hd=>rfl);(case hg=>rfl);(case hr=>first|(go_simp;done)|(go_simp;rfl));intro gb186 hg w11 hbox hb;have n0_:=am_ (bT_ (by repeat (first|(with_reducible first|exact HB.out|apply bA_|apply bN_|apply bD_)|exact HB.out)) hb);have n1_:=am_ (hbox);have n2_:=am_ ((by rw [hg];exact (bZ_ (by repeat (first|(with_reducible first|exact HB.out|apply bA_|apply bN_|apply bD_)|exact HB.out))) : w.heap.size≤gb186));have n3_:=n2_;clear HB;have HB:=n0_;have BK186:=n1_;have GW186:=n2_;have GE186:=n3_;clear n0_ n1_ n2_ n3_;clear hb hbox hg)|((with_reducible refine gate_callee (f:=26) rfl ?_);refine goesL_ (some 7) rfl rfl Tryd.func26 (by kernel_rfl) rfl #[.int .i64 a0] rfl (by (try simp only [List.map_toArray,List.map_cons,List.map_nil]);first|done|rfl|(simp only [List.length_drop,List.length_take];rfl)) ?_;(with_reducible refine (impl_isEdge.calls a0 false _ A3.out).mono ?_);rintro e w' ⟨rfl,⟨nd,rfl⟩⟩;refine ⟨_,rfl,?_⟩;(try (rw [drewN_self w11];generalize hq_ : World.drewN w11 _ = w11;have n0_ : Aside0 (w11.heap[gb186]? = some (.cells #[.int .i8 0,.int .i8 0,.slice none 0 0] 25 (0,0))):=⟨by rw [← hq_];exact (by (with_reducible repeat (first|apply kN_|apply kD_|apply kA_));exact BK186.out)⟩;have n1_ : Aside0 (Below w.heap.size w w11):=⟨by rw [← hq_];exact (by repeat (first|(with_reducible first|exact HB.out|apply bA_|apply bN_|apply bD_|refine bS_ ?_ GE186.out)|exact HB.out))⟩;clear BK186 HB hq_;have BK186:=n0_;have HB:=n1_;clear n0_ n1_));have hcz12_0 : w11.cell? ⟨gb186,0,none⟩ = some (.int .i8 0):=(kC_ BK186.out 0).trans rfl;have hcz12_1 : w11.cell? ⟨gb186,1,none⟩ = some (.int .i8 0):=(kC_ BK186.out 1).trans rfl;have hcz12_2 : w11.cell? ⟨gb186,2,none⟩ = some (.slice none 0 0):=(kC_ BK186.out 2).trans rfl;have hfz12_0:=kF_ BK186.out 0;have hfz12_1:=kF_ BK186.out 1;have hfz12_2:=kF_ BK186.out 2))
  refine bodyPost_ret (results_ct rfl _ _ gb186 25 #[.int .i8 0,.int .i8 0,.slice none 0 0] (0,0) _ rfl (by (with_reducible repeat (first|apply kN_|apply kD_|apply kA_));refine blk_put (cs:=#[.int .i8 0,.int .i8 0,.slice none 0 0]) ?_ 2 _ rfl;(with_reducible repeat (first|apply kN_|apply kD_|apply kA_));refine blk_put (cs:=#[.int .i8 0,.int .i8 0,.slice none 0 0]) ?_ 1 _ rfl;(with_reducible repeat (first|apply kN_|apply kD_|apply kA_));refine blk_put (cs:=#[.int .i8 0,.int .i8 0,.slice none 0 0]) ?_ 0 _ rfl;(with_reducible repeat (first|apply kN_|apply kD_|apply kA_));exact BK186.out) Tryd.underlying25 rfl (by kernel_rfl)) rfl ?_;exact ⟨_,by first|rfl|(simp [errW_none,errW_some] <;> rfl)|(simp [*,errW_none,errW_some] <;> rfl),by first|exact Kd.R_nil _ _ _ _ _|exact Kd.N_nil _ _ _ _ _|exact Kd.V_nil _ _ _ _ _|exact Kd.Q_nil _ _ _ _ _|exact Kd.S_nil _ _ _ _ _,by repeat (first|(with_reducible first|exact HB.out|apply bA_|apply bN_|apply bD_|refine bS_ ?_ GE186.out)|exact HB.out)⟩
end Go.Proofs.YteinapckfhpdkaaDoor.Q
