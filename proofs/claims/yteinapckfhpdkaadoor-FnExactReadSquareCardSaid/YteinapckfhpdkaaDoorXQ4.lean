-- Trimmed by a program.
import Derived.Test.YteinapckfhpdkaaDoorXQ0
import Derived.Test.YteinapckfhpdkaaDoorXQ1
import Derived.Test.YteinapckfhpdkaaDoorXQ2
import Derived.Test.YteinapckfhpdkaaDoorXQ3
namespace Go.Proofs.YteinapckfhpdkaaDoor.Q
open Go.RowKit Go.Proofs.YteinapckfhpdkaaDoorW.PrintWords Go.Proofs.YteinapckfhpdkaaDoorW.PrintLast Go.Proofs.YteinapckfhpdkaaDoorW.PrintMore
attribute [local go_sem] max2_int min2_int max_two min_two max_three min_three max_four min_four
set_option linter.unusedVariables false
set_option linter.unusedSimpArgs false
mutual
def spec_l01Lay.j0 : Nat → List (S25) → Bool → List Int → List Int → Option (List Int × Bool)
 | 0,_,_,_,_=>none
 | k + 1,x0,x33,x119000,x120000=>if x33 = true then (if x120000.length = 144 then (if x119000.length = 144 then (some (x120000,false)) else (none)) else (none)) else (spec_l01Lay.l0 k x0 0 x119000 x120000)
def spec_l01Lay.l0 : Nat → List (S25) → Int → List Int → List Int → Option (List Int × Bool)
 | 0,_,_,_,_=>none
 | k + 1,x0,x5,x119000,x120000=>if 0 < (x0.length : Int) then (if x5 < (((rd_T25 x0 0).f2).length : Int) then (if 0≤x5 then ((spec_l01Lies.f x0 ((rd_T36 ((rd_T25 x0 0).f2) x5).f0) ((rd_T36 ((rd_T25 x0 0).f2) x5).f1) ((rd_T36 ((rd_T25 x0 0).f2) x5).f2) ((rd_T36 ((rd_T25 x0 0).f2) x5).f3)).bind fun t134=>(if t134 = true then (if x5 > 0 then (if 0≤(wrap64 (x5 - 1)) then (if (wrap64 (x5 - 1)) < (((rd_T25 x0 0).f2).length : Int) then ((spec_l01Before.f ((rd_T36 ((rd_T25 x0 0).f2) (wrap64 (x5 - 1))).f0) ((rd_T36 ((rd_T25 x0 0).f2) (wrap64 (x5 - 1))).f1) ((rd_T36 ((rd_T25 x0 0).f2) (wrap64 (x5 - 1))).f2) ((rd_T36 ((rd_T25 x0 0).f2) (wrap64 (x5 - 1))).f3) ((rd_T36 ((rd_T25 x0 0).f2) x5).f0) ((rd_T36 ((rd_T25 x0 0).f2) x5).f1) ((rd_T36 ((rd_T25 x0 0).f2) x5).f2) ((rd_T36 ((rd_T25 x0 0).f2) x5).f3)).bind fun t138=>(spec_l01Lay.j2 k x0 x5 (!t138) x119000 x120000 ((rd_T36 ((rd_T25 x0 0).f2) x5).f0) ((rd_T36 ((rd_T25 x0 0).f2) x5).f1) ((rd_T36 ((rd_T25 x0 0).f2) x5).f2) ((rd_T36 ((rd_T25 x0 0).f2) x5).f3))) else (none)) else (none)) else (spec_l01Lay.j2 k x0 x5 false x119000 x120000 ((rd_T36 ((rd_T25 x0 0).f2) x5).f0) ((rd_T36 ((rd_T25 x0 0).f2) x5).f1) ((rd_T36 ((rd_T25 x0 0).f2) x5).f2) ((rd_T36 ((rd_T25 x0 0).f2) x5).f3))) else (spec_l01Lay.j2 k x0 x5 true x119000 x120000 ((rd_T36 ((rd_T25 x0 0).f2) x5).f0) ((rd_T36 ((rd_T25 x0 0).f2) x5).f1) ((rd_T36 ((rd_T25 x0 0).f2) x5).f2) ((rd_T36 ((rd_T25 x0 0).f2) x5).f3)))) else (none)) else (if x120000.length = 144 then (if x119000.length = 144 then (some (x120000,true)) else (none)) else (none))) else (none)
def spec_l01Lay.j2 : Nat → List (S25) → Int → Bool → List Int → List Int → Int → Int → Int → Int → Option (List Int × Bool)
 | 0,_,_,_,_,_,_,_,_,_=>none
 | k + 1,x0,x5,x71,x119000,x120000,x134000,x134001,x134002,x134003=>if x71 = true then (if x120000.length = 144 then (if x119000.length = 144 then (some (x120000,false)) else (none)) else (none)) else (spec_l01Lay.l1 k x0 x5 x134001 x119000 x120000 x134000 x134001 x134002 x134003)
def spec_l01Lay.l1 : Nat → List (S25) → Int → Int → List Int → List Int → Int → Int → Int → Int → Option (List Int × Bool)
 | 0,_,_,_,_,_,_,_,_,_=>none
 | k + 1,x0,x5,x7,x119000,x120000,x134000,x134001,x134002,x134003=>if x7 < (IntKind.i8.wrap (x134001 + x134003)) then (spec_l01Lay.l2 k x0 x5 x7 x134000 x119000 x120000 x134000 x134001 x134002 x134003) else (spec_l01Lay.l0 k x0 (wrap64 (x5 + 1)) x119000 x120000)
def spec_l01Lay.l2 : Nat → List (S25) → Int → Int → Int → List Int → List Int → Int → Int → Int → Int → Option (List Int × Bool)
 | 0,_,_,_,_,_,_,_,_,_,_=>none
 | k + 1,x0,x5,x7,x8,x119000,x120000,x134000,x134001,x134002,x134003=>if x8 < (IntKind.i8.wrap (x134000 + x134002)) then (if 0≤x7 then (if x7 < 12 then (if 0≤x8 then (if x8 < 12 then (if x7 * 12 + x8 < (x120000.length : Int) then (if (rd x120000 (x7 * 12 + x8)) = 0 then (spec_l01Lay.l2 k x0 x5 x7 (IntKind.i8.wrap (x8 + 1)) x119000 (x120000.set (x7 * 12 + x8 : Int).toNat (wrap64 (x5 + 1))) x134000 x134001 x134002 x134003) else (if x120000.length = 144 then (if x119000.length = 144 then (some (x120000,false)) else (none)) else (none))) else (none)) else (none)) else (none)) else (none)) else (none)) else (spec_l01Lay.l1 k x0 x5 (IntKind.i8.wrap (x7 + 1)) x119000 x120000 x134000 x134001 x134002 x134003)
end
def spec_l01Lay.f (k : Nat) (l0 : List (S25)) : Option (List Int × Bool) := if 0 < (l0.length : Int) then ((spec_l01Edge.f (wrap64 ((rd_T25 l0 0).f0))).bind fun t122 => (if t122 = true then ((spec_l01Edge.f (wrap64 ((rd_T25 l0 0).f1))).bind fun t125 => (if t125 = true then (spec_l01Lay.j0 k l0 (decide ((((rd_T25 l0 0).f2).length : Int) > 60)) (arrZ 144) (arrZ 144)) else (spec_l01Lay.j0 k l0 true (arrZ 144) (arrZ 144)))) else (spec_l01Lay.j0 k l0 true (arrZ 144) (arrZ 144)))) else (none)
theorem spec_l01Lay.mono_l : ∀ k, (∀ y0 y1 y2 y3, LeO (spec_l01Lay.j0 k y0 y1 y2 y3) (spec_l01Lay.j0 (k + 1) y0 y1 y2 y3)) ∧ (∀ y0 y1 y2 y3, LeO (spec_l01Lay.l0 k y0 y1 y2 y3) (spec_l01Lay.l0 (k + 1) y0 y1 y2 y3)) ∧ (∀ y0 y1 y2 y3 y4 y5 y6 y7 y8, LeO (spec_l01Lay.j2 k y0 y1 y2 y3 y4 y5 y6 y7 y8) (spec_l01Lay.j2 (k + 1) y0 y1 y2 y3 y4 y5 y6 y7 y8)) ∧ (∀ y0 y1 y2 y3 y4 y5 y6 y7 y8, LeO (spec_l01Lay.l1 k y0 y1 y2 y3 y4 y5 y6 y7 y8) (spec_l01Lay.l1 (k + 1) y0 y1 y2 y3 y4 y5 y6 y7 y8)) ∧ (∀ y0 y1 y2 y3 y4 y5 y6 y7 y8 y9, LeO (spec_l01Lay.l2 k y0 y1 y2 y3 y4 y5 y6 y7 y8 y9) (spec_l01Lay.l2 (k + 1) y0 y1 y2 y3 y4 y5 y6 y7 y8 y9))
 | 0=>⟨fun _ _ _ _ r h=>by simp [spec_l01Lay.j0] at h,fun _ _ _ _ r h=>by simp [spec_l01Lay.l0] at h,fun _ _ _ _ _ _ _ _ _ r h=>by simp [spec_l01Lay.j2] at h,fun _ _ _ _ _ _ _ _ _ r h=>by simp [spec_l01Lay.l1] at h,fun _ _ _ _ _ _ _ _ _ _ r h=>by simp [spec_l01Lay.l2] at h⟩
 | k + 1=>by
  obtain ⟨ih0,ih1,ih2,ih3,ih4⟩:=spec_l01Lay.mono_l k;refine ⟨?_,?_,?_,?_,?_⟩
  ·
   intro y0 y1 y2 y3
   unfold spec_l01Lay.j0
   repeat' first
   | (with_reducible exact ih0 _ _ _ _)
   | (with_reducible exact ih1 _ _ _ _)
   | (with_reducible exact ih2 _ _ _ _ _ _ _ _ _)
   | (with_reducible exact ih3 _ _ _ _ _ _ _ _ _)
   | (with_reducible exact ih4 _ _ _ _ _ _ _ _ _ _)
   | (with_reducible exact LeO.refl _)
   | (with_reducible exact LeO.none _)
   | (with_reducible refine LeO.ite ?_ ?_)
   | (with_reducible refine LeO.bind ?_ (fun _=>?_))
   | exact ih0 _ _ _ _
   | exact ih1 _ _ _ _
   | exact ih2 _ _ _ _ _ _ _ _ _
   | exact ih3 _ _ _ _ _ _ _ _ _
   | exact ih4 _ _ _ _ _ _ _ _ _ _
   | exact LeO.none _
   | refine LeO.ite ?_ ?_
   | refine LeO.bind ?_ (fun _=>?_)
  ·
   intro y0 y1 y2 y3
   unfold spec_l01Lay.l0
   repeat' first
   | (with_reducible exact ih0 _ _ _ _)
   | (with_reducible exact ih1 _ _ _ _)
   | (with_reducible exact ih2 _ _ _ _ _ _ _ _ _)
   | (with_reducible exact ih3 _ _ _ _ _ _ _ _ _)
   | (with_reducible exact ih4 _ _ _ _ _ _ _ _ _ _)
   | (with_reducible exact LeO.refl _)
   | (with_reducible exact LeO.none _)
   | (with_reducible refine LeO.ite ?_ ?_)
   | (with_reducible refine LeO.bind ?_ (fun _=>?_))
   | exact ih0 _ _ _ _
   | exact ih1 _ _ _ _
   | exact ih2 _ _ _ _ _ _ _ _ _
   | exact ih3 _ _ _ _ _ _ _ _ _
   | exact ih4 _ _ _ _ _ _ _ _ _ _
   | exact LeO.none _
   | refine LeO.ite ?_ ?_
   | refine LeO.bind ?_ (fun _=>?_)
  ·
   intro y0 y1 y2 y3 y4 y5 y6 y7 y8
   unfold spec_l01Lay.j2
   repeat' first
   | (with_reducible exact ih0 _ _ _ _)
   | (with_reducible exact ih1 _ _ _ _)
   | (with_reducible exact ih2 _ _ _ _ _ _ _ _ _)
   | (with_reducible exact ih3 _ _ _ _ _ _ _ _ _)
   | (with_reducible exact ih4 _ _ _ _ _ _ _ _ _ _)
   | (with_reducible exact LeO.refl _)
   | (with_reducible exact LeO.none _)
   | (with_reducible refine LeO.ite ?_ ?_)
   | (with_reducible refine LeO.bind ?_ (fun _=>?_))
   | exact ih0 _ _ _ _
   | exact ih1 _ _ _ _
   | exact ih2 _ _ _ _ _ _ _ _ _
   | exact ih3 _ _ _ _ _ _ _ _ _
   | exact ih4 _ _ _ _ _ _ _ _ _ _
   | exact LeO.none _
   | refine LeO.ite ?_ ?_
   | refine LeO.bind ?_ (fun _=>?_)
  ·
   intro y0 y1 y2 y3 y4 y5 y6 y7 y8
   unfold spec_l01Lay.l1
   repeat' first
   | (with_reducible exact ih0 _ _ _ _)
   | (with_reducible exact ih1 _ _ _ _)
   | (with_reducible exact ih2 _ _ _ _ _ _ _ _ _)
   | (with_reducible exact ih3 _ _ _ _ _ _ _ _ _)
   | (with_reducible exact ih4 _ _ _ _ _ _ _ _ _ _)
   | (with_reducible exact LeO.refl _)
   | (with_reducible exact LeO.none _)
   | (with_reducible refine LeO.ite ?_ ?_)
   | (with_reducible refine LeO.bind ?_ (fun _=>?_))
   | exact ih0 _ _ _ _
   | exact ih1 _ _ _ _
   | exact ih2 _ _ _ _ _ _ _ _ _
   | exact ih3 _ _ _ _ _ _ _ _ _
   | exact ih4 _ _ _ _ _ _ _ _ _ _
   | exact LeO.none _
   | refine LeO.ite ?_ ?_
   | refine LeO.bind ?_ (fun _=>?_)
  ·
   intro y0 y1 y2 y3 y4 y5 y6 y7 y8 y9
   unfold spec_l01Lay.l2
   repeat' first
   | (with_reducible exact ih0 _ _ _ _)
   | (with_reducible exact ih1 _ _ _ _)
   | (with_reducible exact ih2 _ _ _ _ _ _ _ _ _)
   | (with_reducible exact ih3 _ _ _ _ _ _ _ _ _)
   | (with_reducible exact ih4 _ _ _ _ _ _ _ _ _ _)
   | (with_reducible exact LeO.refl _)
   | (with_reducible exact LeO.none _)
   | (with_reducible refine LeO.ite ?_ ?_)
   | (with_reducible refine LeO.bind ?_ (fun _=>?_))
   | exact ih0 _ _ _ _
   | exact ih1 _ _ _ _
   | exact ih2 _ _ _ _ _ _ _ _ _
   | exact ih3 _ _ _ _ _ _ _ _ _
   | exact ih4 _ _ _ _ _ _ _ _ _ _
   | exact LeO.none _
   | refine LeO.ite ?_ ?_
   | refine LeO.bind ?_ (fun _=>?_)
theorem spec_l01Lay.mono : ∀ a0 k, LeO (spec_l01Lay.f k a0) (spec_l01Lay.f (k + 1) a0) := by
 intro a0 k;obtain ⟨ih0,ih1,ih2,ih3,ih4⟩:=spec_l01Lay.mono_l k
 unfold spec_l01Lay.f
 repeat' first
   | (with_reducible exact ih0 _ _ _ _)
   | (with_reducible exact ih1 _ _ _ _)
   | (with_reducible exact ih2 _ _ _ _ _ _ _ _ _)
   | (with_reducible exact ih3 _ _ _ _ _ _ _ _ _)
   | (with_reducible exact ih4 _ _ _ _ _ _ _ _ _ _)
   | (with_reducible exact LeO.refl _)
   | (with_reducible exact LeO.none _)
   | (with_reducible refine LeO.ite ?_ ?_)
   | (with_reducible refine LeO.bind ?_ (fun _=>?_))
   | exact ih0 _ _ _ _
   | exact ih1 _ _ _ _
   | exact ih2 _ _ _ _ _ _ _ _ _
   | exact ih3 _ _ _ _ _ _ _ _ _
   | exact ih4 _ _ _ _ _ _ _ _ _ _
   | exact LeO.none _
   | refine LeO.ite ?_ ?_
   | refine LeO.bind ?_ (fun _=>?_)
def spec_l01Lay.T8 : Bool × List (List Nat × List Nat) := (true, [([], []), ([], []), ([0, 1], [0, 1]), ([2], [2]), ([3, 2], [3]), ([4], [4]), ([5, 4], [4, 5]), ([6, 4, 4], [4, 6]), ([7], [7]), ([8, 7], [7, 8]), ([9, 7], [7, 9]), ([10, 7], [7, 10]), ([7], [7]), ([12, 7], [7, 12]), ([11, 13, 7], [7, 11, 13]), ([14, 7], [7, 14]), ([7], [7]), ([15, 16, 7, 7], [7, 15, 16]), ([17, 7], [7, 17]), ([7, 18, 4], [4, 7, 18]), ([4, 19], [4, 19])])
def spec_l01Lay.B8 : List Nat := [0, 0, 3, 7, 15, 31, 63, 127, 255, 511, 1023, 2047, 255, 4351, 16383, 32767, 255, 131071, 262143, 524287, 1048575]
theorem spec_l01Lay.tab8 : rtab .any (opsOf Tryd.f24 8) = spec_l01Lay.T8 := by kernel_rfl
theorem spec_l01Lay.bits8 : waitsOk spec_l01Lay.T8.2 spec_l01Lay.B8 = true := by kernel_rfl
set_option maxHeartbeats 8000000 in
set_option maxRecDepth 100000 in
theorem spec_l01Lay.calls (k : Nat) (A0 : Option Addr) (c0 : Nat) (l0 : List (S25)) (r1 : List Int) (r2 : Bool) (w : World) (hr0 : Kd.C k25 w A0 l0.length l0) (hc0 : l0.length ≤ c0) (h : spec_l01Lay.f k l0 = some (r1, r2)) :
  Calls Tryd.prog 24 #[.pointer A0] w fun e w'=>e = .returned (.tuple #[.agg (arrC .i64 r1),.bool r2]) ∧ Below w.heap.size w w':=by
 have hu54:=Tryd.underlying54;have hu36:=Tryd.underlying36;have HR0:=am_ hr0;have HC0:=am_ hc0;clear hr0 hc0;have HB:=am_ (Below.refl w.heap.size w);have H : (if 0 < (l0.length : Int) then ((spec_l01Edge.f (wrap64 ((rd_T25 l0 0).f0))).bind fun t122=>(if t122 = true then ((spec_l01Edge.f (wrap64 ((rd_T25 l0 0).f1))).bind fun t125=>(if t125 = true then (spec_l01Lay.j0 k l0 (decide ((((rd_T25 l0 0).f2).length : Int) > 60)) (arrZ 144) (arrZ 144)) else (spec_l01Lay.j0 k l0 true (arrZ 144) (arrZ 144)))) else (spec_l01Lay.j0 k l0 true (arrZ 144) (arrZ 144)))) else (none)) = some (r1,r2):=h;clear h;have HC2:=am_ H;clear H
 go_enter Tryd.func24,Tryd.ntmps24
 go_upto_region 2 with (first|((with_reducible refine gate_dst (N:=2) rfl ?_);(try (refine gate_guard (by rfl) ?_;dsimp only));refine box_event ?hg (N:=2) ?hd (cs:=(arrC .i64 (arrZ 144))) (t:=54) ?hr ?_;(case hd=>rfl);(case hg=>rfl);(case hr=>exact arr_alloc rfl .i64 144 (by kernel_rfl));intro gb118 hg w3 hbox hb;have n0_:=am_ (bT_ (by repeat (first|(with_reducible first|exact HB.out|apply bA_|apply bN_|apply bD_)|exact HB.out)) hb);have n1_:=am_ (hbox);have n2_:=am_ ((by rw [hg];exact (bZ_ (by repeat (first|(with_reducible first|exact HB.out|apply bA_|apply bN_|apply bD_)|exact HB.out))) : w.heap.size≤gb118));have n3_:=n2_;clear HB;have HB:=n0_;have BK118:=n1_;have GW118:=n2_;have GE118:=n3_;clear n0_ n1_ n2_ n3_;clear hb hbox hg)|((with_reducible refine gate_dst (N:=9) rfl ?_);(try (refine gate_guard (by rfl) ?_;dsimp only));refine arr_build ?hg (N:=9) ?hd (t:=54) ?ho .i64 144 Tryd.underlying54 (by kernel_rfl) (by kernel_rfl) ?_;(case hd=>rfl);(case hg=>rfl);(case ho=>rfl))|((with_reducible refine gate_dst (N:=4) rfl ?_);(try (refine gate_guard (by rfl) ?_;dsimp only));refine box_event ?hg (N:=4) ?hd (cs:=(arrC .i64 (arrZ 144))) (t:=54) ?hr ?_;(case hd=>rfl);(case hg=>rfl);(case hr=>exact arr_alloc rfl .i64 144 (by kernel_rfl));intro gb119 hg w4 hbox hb;have n0_:=am_ (kB_ (g:=gb118) (o:=.cells (arrC .i64 (arrZ 144)) 54 (0,0)) (by (with_reducible repeat (first|apply kN_|apply kD_|apply kA_));exact BK118.out) hb);have n1_:=am_ (bT_ (by repeat (first|(with_reducible first|exact HB.out|apply bA_|apply bN_|apply bD_|refine bS_ ?_ GE118.out)|exact HB.out)) hb);have n2_:=am_ (hbox);have n3_:=am_ ((by rw [hg];exact (bZ_ (by repeat (first|(with_reducible first|exact HB.out|apply bA_|apply bN_|apply bD_|refine bS_ ?_ GE118.out)|exact HB.out))) : w.heap.size≤gb119));have n4_:=n3_;have n5_:=am_ ((by rw [hg];exact nL_ (kL_ (g:=gb118) (o:=.cells (arrC .i64 (arrZ 144)) 54 (0,0)) (by (with_reducible repeat (first|apply kN_|apply kD_|apply kA_));exact BK118.out)) : gb118 ≠ gb119));have n6_:=am_ ((by rw [hg];exact nG_ (kL_ (g:=gb118) (o:=.cells (arrC .i64 (arrZ 144)) 54 (0,0)) (by (with_reducible repeat (first|apply kN_|apply kD_|apply kA_));exact BK118.out)) : gb119 ≠ gb118));clear BK118;clear HB;have BK118:=n0_;have HB:=n1_;have BK119:=n2_;have GW119:=n3_;have GE119:=n4_;have NB118_119:=n5_;have NB119_118:=n6_;clear n0_ n1_ n2_ n3_ n4_ n5_ n6_;clear hb hbox hg)|((with_reducible refine gate_store (t:=54) (p:=4) rfl ?_);refine arr_store (p:=4) (v:=?vv_w5) (n:=144) (k:=.i64) (g:=gb119) (l:=(arrZ 144)) (l2:=(arrZ 144)) ?hg ?hn (t:=54) ?ho ?hp ?hv (by (with_reducible repeat (first|apply kN_|apply kD_|apply kA_));exact BK119.out) (by kernel_rfl) (arrZ_length _) (arrZ_length _) ?_;(case ho=>rfl);(case hg=>rfl);(case hn=>rfl);(case hp=>rfl);(case hv=>rfl);intro w5 hg hx;have n0_:=am_ (blk_grown (g:=gb118) (o:=.cells (arrC .i64 (arrZ 144)) 54 (0,0)) (by (with_reducible repeat (first|apply kN_|apply kD_|apply kA_));exact BK118.out) hg (fun e_=>NB118_119.out (Option.some.inj e_)));have n1_:=am_ (hx);have n2_:=am_ (Below.grown (by repeat (first|(with_reducible first|exact HB.out|apply bA_|apply bN_|apply bD_|refine bS_ ?_ GE118.out|refine bS_ ?_ GE119.out)|exact HB.out)) hg (bZ_ (by repeat (first|(with_reducible first|exact HB.out|apply bA_|apply bN_|apply bD_|refine bS_ ?_ GE118.out|refine bS_ ?_ GE119.out)|exact HB.out))) (fun k_ e_=>by cases e_;exact GE119.out));clear BK118;clear BK119;clear HB;have BK118:=n0_;have BK119:=n1_;have HB:=n2_;clear n0_ n1_ n2_;clear hg hx))
 (try simp only [Act.put,z1_,z2_,z3_])
 go_cut [33] (fun v33 wc=>∃ (kq : Nat) (x33_1 : Bool),v33 = .bool x33_1 ∧ Aside0 (spec_l01Lay.j0 kq l0 x33_1 (arrZ 144) (arrZ 144) = some (r1,r2)) ∧ Aside0 (kq≤k) ∧ Aside0 (wc.heap[gb118]? = some (.cells (arrC .i64 (arrZ 144)) 54 (0,0))) ∧ Aside0 (wc.heap[gb119]? = some (.cells (arrC .i64 (arrZ 144)) 54 (0,0))) ∧ Aside0 (Below w.heap.size w wc))
 case first =>
  have H:=HC2.out;clear HC2
  by_cases c6 : 0 < (l0.length : Int)
  ·
   rw [if_pos c6] at H;have c6b0 : decide (0 < (l0.length : Int)) = true:=decide_eq_true c6;have c6b1 : decide (0 < l0.length) = true:=decide_eq_true (by omega);clear c6
   (first|rw [c6b0]|(simp only [i64_w,i32_w];rw [c6b0])|skip)
   replace H:=Option.bind_eq_some_iff.mp H;obtain ⟨t122,A70,H⟩:=H;replace H : (if t122 = true then ((spec_l01Edge.f (wrap64 ((rd_T25 l0 0).f1))).bind fun t125=>(if t125 = true then (spec_l01Lay.j0 k l0 (decide ((((rd_T25 l0 0).f2).length : Int) > 60)) (arrZ 144) (arrZ 144)) else (spec_l01Lay.j0 k l0 true (arrZ 144) (arrZ 144)))) else (spec_l01Lay.j0 k l0 true (arrZ 144) (arrZ 144))) = some (r1,r2):=H;have A7:=am_ A70;clear A70
   by_cases c8 : t122 = true
   ·
    subst c8;have H1 : ((spec_l01Edge.f (wrap64 ((rd_T25 l0 0).f1))).bind fun t125=>(if t125 = true then (spec_l01Lay.j0 k l0 (decide ((((rd_T25 l0 0).f2).length : Int) > 60)) (arrZ 144) (arrZ 144)) else (spec_l01Lay.j0 k l0 true (arrZ 144) (arrZ 144)))) = some (r1,r2):=by rw [if_pos rfl] at H;exact H
    clear H;have H:=H1;clear H1;replace H:=Option.bind_eq_some_iff.mp H;obtain ⟨t125,A90,H⟩:=H;replace H : (if t125 = true then (spec_l01Lay.j0 k l0 (decide ((((rd_T25 l0 0).f2).length : Int) > 60)) (arrZ 144) (arrZ 144)) else (spec_l01Lay.j0 k l0 true (arrZ 144) (arrZ 144))) = some (r1,r2):=H;have A9:=am_ A90;clear A90
    by_cases c10 : t125 = true
    ·
     subst c10;have H1 : (spec_l01Lay.j0 k l0 (decide ((((rd_T25 l0 0).f2).length : Int) > 60)) (arrZ 144) (arrZ 144)) = some (r1,r2):=by rw [if_pos rfl] at H;exact H
     clear H;have H:=H1;clear H1;have H':=am_ H;clear H;have p120 : 0≤(0 : Int):=(by omega)
     have q120 : 0 < (l0.length : Int):=od_ (by first|(with_reducible assumption)|assumption);obtain ⟨ad120,A120_2,c120_2,e120,hx120_0,hx120_1,hx120_2,hl120_2,hi120_2⟩:=at_T25 HR0.out 0 p120 q120
     cases e120
     have qi120 : (0 < l0.length) = True:=eq_true (by omega);(try rw [show ((0 : Int)).toNat = 0 from rfl] at hx120_0);(try rw [show 0 * 3 = 0 from rfl] at hx120_0);(try rw [Addr.add_zero'] at hx120_0);(try rw [show ((0 : Int)).toNat = 0 from rfl] at hx120_1);(try rw [show 0 * 3 = 0 from rfl] at hx120_1);(try rw [Addr.add_zero'] at hx120_1);(try rw [show ((0 : Int)).toNat = 0 from rfl] at hx120_2);(try rw [show 0 * 3 = 0 from rfl] at hx120_2);(try rw [Addr.add_zero'] at hx120_2);replace hx120_0:=(HB.out.cell (bl_ w _ hx120_0)).trans hx120_0;replace hx120_1:=(HB.out.cell (bl_ w _ hx120_1)).trans hx120_1;replace hx120_2:=(HB.out.cell (bl_ w _ hx120_2)).trans hx120_2;have HR120_2:=am_ hi120_2;have HC120_2:=am_ hl120_2;clear hi120_2 hl120_2;replace p120:=eq_true p120;replace q120:=eq_true q120;have p121 : 0≤(0 : Int):=(by omega)
     have q121 : 0 < (l0.length : Int):=od_ (by first|(with_reducible assumption)|assumption);obtain ⟨ad121,A121_2,c121_2,e121,hx121_0,hx121_1,hx121_2,hl121_2,hi121_2⟩:=at_T25 HR0.out 0 p121 q121;obtain rfl : ad120 = ad121:=(by injection e121)
     have qi121 : (0 < l0.length) = True:=eq_true (by omega);(try rw [show ((0 : Int)).toNat = 0 from rfl] at hx121_0);(try rw [show 0 * 3 = 0 from rfl] at hx121_0);(try rw [Addr.add_zero'] at hx121_0);(try rw [show ((0 : Int)).toNat = 0 from rfl] at hx121_1);(try rw [show 0 * 3 = 0 from rfl] at hx121_1);(try rw [Addr.add_zero'] at hx121_1);(try rw [show ((0 : Int)).toNat = 0 from rfl] at hx121_2);(try rw [show 0 * 3 = 0 from rfl] at hx121_2);(try rw [Addr.add_zero'] at hx121_2);replace hx121_0:=(HB.out.cell (bl_ w _ hx121_0)).trans hx121_0;replace hx121_1:=(HB.out.cell (bl_ w _ hx121_1)).trans hx121_1;replace hx121_2:=(HB.out.cell (bl_ w _ hx121_2)).trans hx121_2;have HR121_2:=am_ hi121_2;have HC121_2:=am_ hl121_2;clear hi121_2 hl121_2;replace p121:=eq_true p121;replace q121:=eq_true q121;have ea_:=Option.some.inj (hx120_2.symm.trans hx121_2)
     injection ea_ with ea_ en_ ec_
     subst ea_;subst ec_;clear en_
     go_wp2_with (first|((with_reducible refine gate_callee (f:=10) rfl ?_);refine goesL_ (some 15) rfl rfl Tryd.func10 (by kernel_rfl) rfl #[.int .i64 (wrap64 ((rd_T25 l0 0).f0))] rfl (by (try simp only [List.map_toArray,List.map_cons,List.map_nil]);first|done|rfl|(simp only [List.length_drop,List.length_take];rfl)) ?_;(with_reducible refine (spec_l01Edge.calls (wrap64 ((rd_T25 l0 0).f0)) true _ A7.out).mono ?_);rintro e w' ⟨rfl,⟨nd,rfl⟩⟩;refine ⟨_,rfl,?_⟩;have p123 : 0≤(0 : Int):=(by omega);have q123 : 0 < (l0.length : Int):=od_ (by first|(with_reducible assumption)|assumption);obtain ⟨ad123,A123_2,c123_2,e123,hx123_0,hx123_1,hx123_2,hl123_2,hi123_2⟩:=at_T25 HR0.out 0 p123 q123;obtain rfl : ad120 = ad123:=(by injection e123);have qi123 : (0 < l0.length) = True:=eq_true (by omega);(try rw [show ((0 : Int)).toNat = 0 from rfl] at hx123_0);(try rw [show 0 * 3 = 0 from rfl] at hx123_0);(try rw [Addr.add_zero'] at hx123_0);(try rw [show ((0 : Int)).toNat = 0 from rfl] at hx123_1);(try rw [show 0 * 3 = 0 from rfl] at hx123_1);(try rw [Addr.add_zero'] at hx123_1);(try rw [show ((0 : Int)).toNat = 0 from rfl] at hx123_2);(try rw [show 0 * 3 = 0 from rfl] at hx123_2);(try rw [Addr.add_zero'] at hx123_2);replace hx123_0:=(HB.out.cell (bl_ w _ hx123_0)).trans hx123_0;replace hx123_1:=(HB.out.cell (bl_ w _ hx123_1)).trans hx123_1;replace hx123_2:=(HB.out.cell (bl_ w _ hx123_2)).trans hx123_2;have HR123_2:=am_ hi123_2;have HC123_2:=am_ hl123_2;clear hi123_2 hl123_2;replace p123:=eq_true p123;replace q123:=eq_true q123;have ea_:=Option.some.inj (hx120_2.symm.trans hx123_2);injection ea_ with ea_ en_ ec_;subst ea_;subst ec_;clear en_;have p124 : 0≤(0 : Int):=(by omega);have q124 : 0 < (l0.length : Int):=od_ (by first|(with_reducible assumption)|assumption);obtain ⟨ad124,A124_2,c124_2,e124,hx124_0,hx124_1,hx124_2,hl124_2,hi124_2⟩:=at_T25 HR0.out 0 p124 q124;obtain rfl : ad120 = ad124:=(by injection e124);have qi124 : (0 < l0.length) = True:=eq_true (by omega);(try rw [show ((0 : Int)).toNat = 0 from rfl] at hx124_0);(try rw [show 0 * 3 = 0 from rfl] at hx124_0);(try rw [Addr.add_zero'] at hx124_0);(try rw [show ((0 : Int)).toNat = 0 from rfl] at hx124_1);(try rw [show 0 * 3 = 0 from rfl] at hx124_1);(try rw [Addr.add_zero'] at hx124_1);(try rw [show ((0 : Int)).toNat = 0 from rfl] at hx124_2);(try rw [show 0 * 3 = 0 from rfl] at hx124_2);(try rw [Addr.add_zero'] at hx124_2);replace hx124_0:=(HB.out.cell (bl_ w _ hx124_0)).trans hx124_0;replace hx124_1:=(HB.out.cell (bl_ w _ hx124_1)).trans hx124_1;replace hx124_2:=(HB.out.cell (bl_ w _ hx124_2)).trans hx124_2;have HR124_2:=am_ hi124_2;have HC124_2:=am_ hl124_2;clear hi124_2 hl124_2;replace p124:=eq_true p124;replace q124:=eq_true q124;have ea_:=Option.some.inj (hx120_2.symm.trans hx124_2);injection ea_ with ea_ en_ ec_;subst ea_;subst ec_;clear en_)|(go_at_call 10;(with_reducible refine (spec_l01Edge.calls (wrap64 ((rd_T25 l0 0).f1)) true _ A9.out).mono ?_);rintro e w' ⟨rfl,⟨nd,rfl⟩⟩;have p126 : 0≤(0 : Int):=(by omega);have q126 : 0 < (l0.length : Int):=od_ (by first|(with_reducible assumption)|assumption);obtain ⟨ad126,A126_2,c126_2,e126,hx126_0,hx126_1,hx126_2,hl126_2,hi126_2⟩:=at_T25 HR0.out 0 p126 q126;obtain rfl : ad120 = ad126:=(by injection e126);have qi126 : (0 < l0.length) = True:=eq_true (by omega);(try rw [show ((0 : Int)).toNat = 0 from rfl] at hx126_0);(try rw [show 0 * 3 = 0 from rfl] at hx126_0);(try rw [Addr.add_zero'] at hx126_0);(try rw [show ((0 : Int)).toNat = 0 from rfl] at hx126_1);(try rw [show 0 * 3 = 0 from rfl] at hx126_1);(try rw [Addr.add_zero'] at hx126_1);(try rw [show ((0 : Int)).toNat = 0 from rfl] at hx126_2);(try rw [show 0 * 3 = 0 from rfl] at hx126_2);(try rw [Addr.add_zero'] at hx126_2);replace hx126_0:=(HB.out.cell (bl_ w _ hx126_0)).trans hx126_0;replace hx126_1:=(HB.out.cell (bl_ w _ hx126_1)).trans hx126_1;replace hx126_2:=(HB.out.cell (bl_ w _ hx126_2)).trans hx126_2;have HR126_2:=am_ hi126_2;have HC126_2:=am_ hl126_2;clear hi126_2 hl126_2;replace p126:=eq_true p126;replace q126:=eq_true q126;have ea_:=Option.some.inj (hx120_2.symm.trans hx126_2);injection ea_ with ea_ en_ ec_;subst ea_;subst ec_;clear en_;have p127 : 0≤(0 : Int):=(by omega);have q127 : 0 < (l0.length : Int):=od_ (by first|(with_reducible assumption)|assumption);obtain ⟨ad127,A127_2,c127_2,e127,hx127_0,hx127_1,hx127_2,hl127_2,hi127_2⟩:=at_T25 HR0.out 0 p127 q127;obtain rfl : ad120 = ad127:=(by injection e127);have qi127 : (0 < l0.length) = True:=eq_true (by omega);(try rw [show ((0 : Int)).toNat = 0 from rfl] at hx127_0);(try rw [show 0 * 3 = 0 from rfl] at hx127_0);(try rw [Addr.add_zero'] at hx127_0);(try rw [show ((0 : Int)).toNat = 0 from rfl] at hx127_1);(try rw [show 0 * 3 = 0 from rfl] at hx127_1);(try rw [Addr.add_zero'] at hx127_1);(try rw [show ((0 : Int)).toNat = 0 from rfl] at hx127_2);(try rw [show 0 * 3 = 0 from rfl] at hx127_2);(try rw [Addr.add_zero'] at hx127_2);replace hx127_0:=(HB.out.cell (bl_ w _ hx127_0)).trans hx127_0;replace hx127_1:=(HB.out.cell (bl_ w _ hx127_1)).trans hx127_1;replace hx127_2:=(HB.out.cell (bl_ w _ hx127_2)).trans hx127_2;have HR127_2:=am_ hi127_2;have HC127_2:=am_ hl127_2;clear hi127_2 hl127_2;replace p127:=eq_true p127;replace q127:=eq_true q127;have ea_:=Option.some.inj (hx120_2.symm.trans hx127_2);injection ea_ with ea_ en_ ec_;subst ea_;subst ec_;clear en_))
     go_meet
     case rel=>exact ⟨_,(decide ((((rd_T25 l0 0).f2).length : Int) > 60)),(by first|rfl|(simp;done)|(simp [*];done)),H',⟨by first|omega|exact Nat.le_refl _⟩,⟨by (with_reducible repeat (first|apply kN_|apply kD_|apply kA_));exact BK118.out⟩,⟨by (with_reducible repeat (first|apply kN_|apply kD_|apply kA_));exact BK119.out⟩,⟨by repeat (first|(with_reducible first|exact HB.out|apply bA_|apply bN_|apply bD_|refine bS_ ?_ GE118.out|refine bS_ ?_ GE119.out)|exact HB.out)⟩⟩
    ·
     replace c10:=Bool.eq_false_iff.mpr c10;subst c10;have H1 : (spec_l01Lay.j0 k l0 true (arrZ 144) (arrZ 144)) = some (r1,r2):=by rw [if_neg (show ¬ (false = true) by decide)] at H;exact H
     clear H;have H:=H1;clear H1;have H':=am_ H;clear H;have p120 : 0≤(0 : Int):=(by omega)
     have q120 : 0 < (l0.length : Int):=od_ (by first|(with_reducible assumption)|assumption);obtain ⟨ad120,A120_2,c120_2,e120,hx120_0,hx120_1,hx120_2,hl120_2,hi120_2⟩:=at_T25 HR0.out 0 p120 q120
     cases e120
     have qi120 : (0 < l0.length) = True:=eq_true (by omega);(try rw [show ((0 : Int)).toNat = 0 from rfl] at hx120_0);(try rw [show 0 * 3 = 0 from rfl] at hx120_0);(try rw [Addr.add_zero'] at hx120_0);(try rw [show ((0 : Int)).toNat = 0 from rfl] at hx120_1);(try rw [show 0 * 3 = 0 from rfl] at hx120_1);(try rw [Addr.add_zero'] at hx120_1);(try rw [show ((0 : Int)).toNat = 0 from rfl] at hx120_2);(try rw [show 0 * 3 = 0 from rfl] at hx120_2);(try rw [Addr.add_zero'] at hx120_2);replace hx120_0:=(HB.out.cell (bl_ w _ hx120_0)).trans hx120_0;replace hx120_1:=(HB.out.cell (bl_ w _ hx120_1)).trans hx120_1;replace hx120_2:=(HB.out.cell (bl_ w _ hx120_2)).trans hx120_2;have HR120_2:=am_ hi120_2;have HC120_2:=am_ hl120_2;clear hi120_2 hl120_2;replace p120:=eq_true p120;replace q120:=eq_true q120;have p121 : 0≤(0 : Int):=(by omega)
     have q121 : 0 < (l0.length : Int):=od_ (by first|(with_reducible assumption)|assumption);obtain ⟨ad121,A121_2,c121_2,e121,hx121_0,hx121_1,hx121_2,hl121_2,hi121_2⟩:=at_T25 HR0.out 0 p121 q121;obtain rfl : ad120 = ad121:=(by injection e121)
     have qi121 : (0 < l0.length) = True:=eq_true (by omega);(try rw [show ((0 : Int)).toNat = 0 from rfl] at hx121_0);(try rw [show 0 * 3 = 0 from rfl] at hx121_0);(try rw [Addr.add_zero'] at hx121_0);(try rw [show ((0 : Int)).toNat = 0 from rfl] at hx121_1);(try rw [show 0 * 3 = 0 from rfl] at hx121_1);(try rw [Addr.add_zero'] at hx121_1);(try rw [show ((0 : Int)).toNat = 0 from rfl] at hx121_2);(try rw [show 0 * 3 = 0 from rfl] at hx121_2);(try rw [Addr.add_zero'] at hx121_2);replace hx121_0:=(HB.out.cell (bl_ w _ hx121_0)).trans hx121_0;replace hx121_1:=(HB.out.cell (bl_ w _ hx121_1)).trans hx121_1;replace hx121_2:=(HB.out.cell (bl_ w _ hx121_2)).trans hx121_2;have HR121_2:=am_ hi121_2;have HC121_2:=am_ hl121_2;clear hi121_2 hl121_2;replace p121:=eq_true p121;replace q121:=eq_true q121;have ea_:=Option.some.inj (hx120_2.symm.trans hx121_2)
     injection ea_ with ea_ en_ ec_
     subst ea_;subst ec_;clear en_
     go_wp2_with (first|((with_reducible refine gate_callee (f:=10) rfl ?_);refine goesL_ (some 15) rfl rfl Tryd.func10 (by kernel_rfl) rfl #[.int .i64 (wrap64 ((rd_T25 l0 0).f0))] rfl (by (try simp only [List.map_toArray,List.map_cons,List.map_nil]);first|done|rfl|(simp only [List.length_drop,List.length_take];rfl)) ?_;(with_reducible refine (spec_l01Edge.calls (wrap64 ((rd_T25 l0 0).f0)) true _ A7.out).mono ?_);rintro e w' ⟨rfl,⟨nd,rfl⟩⟩;refine ⟨_,rfl,?_⟩;have p123 : 0≤(0 : Int):=(by omega);have q123 : 0 < (l0.length : Int):=od_ (by first|(with_reducible assumption)|assumption);obtain ⟨ad123,A123_2,c123_2,e123,hx123_0,hx123_1,hx123_2,hl123_2,hi123_2⟩:=at_T25 HR0.out 0 p123 q123;obtain rfl : ad120 = ad123:=(by injection e123);have qi123 : (0 < l0.length) = True:=eq_true (by omega);(try rw [show ((0 : Int)).toNat = 0 from rfl] at hx123_0);(try rw [show 0 * 3 = 0 from rfl] at hx123_0);(try rw [Addr.add_zero'] at hx123_0);(try rw [show ((0 : Int)).toNat = 0 from rfl] at hx123_1);(try rw [show 0 * 3 = 0 from rfl] at hx123_1);(try rw [Addr.add_zero'] at hx123_1);(try rw [show ((0 : Int)).toNat = 0 from rfl] at hx123_2);(try rw [show 0 * 3 = 0 from rfl] at hx123_2);(try rw [Addr.add_zero'] at hx123_2);replace hx123_0:=(HB.out.cell (bl_ w _ hx123_0)).trans hx123_0;replace hx123_1:=(HB.out.cell (bl_ w _ hx123_1)).trans hx123_1;replace hx123_2:=(HB.out.cell (bl_ w _ hx123_2)).trans hx123_2;have HR123_2:=am_ hi123_2;have HC123_2:=am_ hl123_2;clear hi123_2 hl123_2;replace p123:=eq_true p123;replace q123:=eq_true q123;have ea_:=Option.some.inj (hx120_2.symm.trans hx123_2);injection ea_ with ea_ en_ ec_;subst ea_;subst ec_;clear en_;have p124 : 0≤(0 : Int):=(by omega);have q124 : 0 < (l0.length : Int):=od_ (by first|(with_reducible assumption)|assumption);obtain ⟨ad124,A124_2,c124_2,e124,hx124_0,hx124_1,hx124_2,hl124_2,hi124_2⟩:=at_T25 HR0.out 0 p124 q124;obtain rfl : ad120 = ad124:=(by injection e124);have qi124 : (0 < l0.length) = True:=eq_true (by omega);(try rw [show ((0 : Int)).toNat = 0 from rfl] at hx124_0);(try rw [show 0 * 3 = 0 from rfl] at hx124_0);(try rw [Addr.add_zero'] at hx124_0);(try rw [show ((0 : Int)).toNat = 0 from rfl] at hx124_1);(try rw [show 0 * 3 = 0 from rfl] at hx124_1);(try rw [Addr.add_zero'] at hx124_1);(try rw [show ((0 : Int)).toNat = 0 from rfl] at hx124_2);(try rw [show 0 * 3 = 0 from rfl] at hx124_2);(try rw [Addr.add_zero'] at hx124_2);replace hx124_0:=(HB.out.cell (bl_ w _ hx124_0)).trans hx124_0;replace hx124_1:=(HB.out.cell (bl_ w _ hx124_1)).trans hx124_1;replace hx124_2:=(HB.out.cell (bl_ w _ hx124_2)).trans hx124_2;have HR124_2:=am_ hi124_2;have HC124_2:=am_ hl124_2;clear hi124_2 hl124_2;replace p124:=eq_true p124;replace q124:=eq_true q124;have ea_:=Option.some.inj (hx120_2.symm.trans hx124_2);injection ea_ with ea_ en_ ec_;subst ea_;subst ec_;clear en_)|(go_at_call 10;(with_reducible refine (spec_l01Edge.calls (wrap64 ((rd_T25 l0 0).f1)) false _ A9.out).mono ?_);rintro e w' ⟨rfl,⟨nd,rfl⟩⟩))
     go_meet
     case rel=>exact ⟨_,(true),(by first|rfl|(simp;done)|(simp [*];done)),H',⟨by first|omega|exact Nat.le_refl _⟩,⟨by (with_reducible repeat (first|apply kN_|apply kD_|apply kA_));exact BK118.out⟩,⟨by (with_reducible repeat (first|apply kN_|apply kD_|apply kA_));exact BK119.out⟩,⟨by repeat (first|(with_reducible first|exact HB.out|apply bA_|apply bN_|apply bD_|refine bS_ ?_ GE118.out|refine bS_ ?_ GE119.out)|exact HB.out)⟩⟩
   ·
    replace c8:=Bool.eq_false_iff.mpr c8;subst c8;have H1 : (spec_l01Lay.j0 k l0 true (arrZ 144) (arrZ 144)) = some (r1,r2):=by rw [if_neg (show ¬ (false = true) by decide)] at H;exact H
    clear H;have H:=H1;clear H1;have H':=am_ H;clear H;have p120 : 0≤(0 : Int):=(by omega)
    have q120 : 0 < (l0.length : Int):=od_ (by first|(with_reducible assumption)|assumption);obtain ⟨ad120,A120_2,c120_2,e120,hx120_0,hx120_1,hx120_2,hl120_2,hi120_2⟩:=at_T25 HR0.out 0 p120 q120
    cases e120
    have qi120 : (0 < l0.length) = True:=eq_true (by omega);(try rw [show ((0 : Int)).toNat = 0 from rfl] at hx120_0);(try rw [show 0 * 3 = 0 from rfl] at hx120_0);(try rw [Addr.add_zero'] at hx120_0);(try rw [show ((0 : Int)).toNat = 0 from rfl] at hx120_1);(try rw [show 0 * 3 = 0 from rfl] at hx120_1);(try rw [Addr.add_zero'] at hx120_1);(try rw [show ((0 : Int)).toNat = 0 from rfl] at hx120_2);(try rw [show 0 * 3 = 0 from rfl] at hx120_2);(try rw [Addr.add_zero'] at hx120_2);replace hx120_0:=(HB.out.cell (bl_ w _ hx120_0)).trans hx120_0;replace hx120_1:=(HB.out.cell (bl_ w _ hx120_1)).trans hx120_1;replace hx120_2:=(HB.out.cell (bl_ w _ hx120_2)).trans hx120_2;have HR120_2:=am_ hi120_2;have HC120_2:=am_ hl120_2;clear hi120_2 hl120_2;replace p120:=eq_true p120;replace q120:=eq_true q120;have p121 : 0≤(0 : Int):=(by omega)
    have q121 : 0 < (l0.length : Int):=od_ (by first|(with_reducible assumption)|assumption);obtain ⟨ad121,A121_2,c121_2,e121,hx121_0,hx121_1,hx121_2,hl121_2,hi121_2⟩:=at_T25 HR0.out 0 p121 q121;obtain rfl : ad120 = ad121:=(by injection e121)
    have qi121 : (0 < l0.length) = True:=eq_true (by omega);(try rw [show ((0 : Int)).toNat = 0 from rfl] at hx121_0);(try rw [show 0 * 3 = 0 from rfl] at hx121_0);(try rw [Addr.add_zero'] at hx121_0);(try rw [show ((0 : Int)).toNat = 0 from rfl] at hx121_1);(try rw [show 0 * 3 = 0 from rfl] at hx121_1);(try rw [Addr.add_zero'] at hx121_1);(try rw [show ((0 : Int)).toNat = 0 from rfl] at hx121_2);(try rw [show 0 * 3 = 0 from rfl] at hx121_2);(try rw [Addr.add_zero'] at hx121_2);replace hx121_0:=(HB.out.cell (bl_ w _ hx121_0)).trans hx121_0;replace hx121_1:=(HB.out.cell (bl_ w _ hx121_1)).trans hx121_1;replace hx121_2:=(HB.out.cell (bl_ w _ hx121_2)).trans hx121_2;have HR121_2:=am_ hi121_2;have HC121_2:=am_ hl121_2;clear hi121_2 hl121_2;replace p121:=eq_true p121;replace q121:=eq_true q121;have ea_:=Option.some.inj (hx120_2.symm.trans hx121_2)
    injection ea_ with ea_ en_ ec_
    subst ea_;subst ec_;clear en_
    go_wp2_with (first|((with_reducible refine gate_callee (f:=10) rfl ?_);refine goesL_ (some 15) rfl rfl Tryd.func10 (by kernel_rfl) rfl #[.int .i64 (wrap64 ((rd_T25 l0 0).f0))] rfl (by (try simp only [List.map_toArray,List.map_cons,List.map_nil]);first|done|rfl|(simp only [List.length_drop,List.length_take];rfl)) ?_;(with_reducible refine (spec_l01Edge.calls (wrap64 ((rd_T25 l0 0).f0)) false _ A7.out).mono ?_);rintro e w' ⟨rfl,⟨nd,rfl⟩⟩;refine ⟨_,rfl,?_⟩))
    go_meet
    case rel=>exact ⟨_,(true),(by first|rfl|(simp;done)|(simp [*];done)),H',⟨by first|omega|exact Nat.le_refl _⟩,⟨by (with_reducible repeat (first|apply kN_|apply kD_|apply kA_));exact BK118.out⟩,⟨by (with_reducible repeat (first|apply kN_|apply kD_|apply kA_));exact BK119.out⟩,⟨by repeat (first|(with_reducible first|exact HB.out|apply bA_|apply bN_|apply bD_|refine bS_ ?_ GE118.out|refine bS_ ?_ GE119.out)|exact HB.out)⟩⟩
  ·
   rw [if_neg c6] at H;exact absurd H (by simp)
 case rest =>
  clear HC2;(try clear c1);(try clear p1);(try clear q1);(try clear hx1);(try clear qi1);(try clear c2);(try clear p2);(try clear c6);(try clear c6b0);(try clear c6b1);(try clear p6);(try clear c8);(try clear c10);(try clear hx120_0);(try clear hx120_1);(try clear hx120_2);(try clear hx121_0);(try clear hx121_1);(try clear hx121_2);(try clear hx123_0);(try clear hx123_1);(try clear hx123_2);(try clear hx124_0);(try clear hx124_1);(try clear hx124_2);(try clear hx126_0);(try clear hx126_1);(try clear hx126_2);(try clear hx127_0);(try clear hx127_1);(try clear hx127_2);(try clear p120);(try clear p121);(try clear p123);(try clear p124);(try clear p126);(try clear p127);(try clear q120);(try clear q121);(try clear q123);(try clear q124);(try clear q126);(try clear q127);obtain ⟨kq,x33_1,rfl,HA,HJ1,BK118,BK119,HB⟩:=hcut
  cases kq with
  | zero=>exact absurd HA.out (by simp [spec_l01Lay.j0])
  | succ kj1 =>
   have H:=HA.out;clear HA;simp only [spec_l01Lay.j0] at H
   by_cases c11 : x33_1 = true
   ·
    subst c11;have H1 : (if (arrZ 144).length = 144 then (if (arrZ 144).length = 144 then (some ((arrZ 144),false)) else (none)) else (none)) = some (r1,r2):=by rw [if_pos rfl] at H;exact H
    clear H;have H:=H1;clear H1
    by_cases c12 : (arrZ 144).length = 144
    ·
     rw [if_pos c12] at H;have c12b0:=eq_true c12;have c12b1 : decide ((arrZ 144).length = 144) = true:=decide_eq_true c12;clear c12
     by_cases c13 : (arrZ 144).length = 144
     ·
      rw [if_pos c13] at H;have c13b0:=eq_true c13;have c13b1 : decide ((arrZ 144).length = 144) = true:=decide_eq_true c13;clear c13;simp only [Option.some.injEq,Prod.mk.injEq] at H;obtain ⟨rfl,rfl⟩:=H
      go_wp2_with (first|((with_reducible refine gate_dst (N:=34) rfl ?_);(try (refine gate_guard (by rfl) ?_;dsimp only));refine arr_load (p:=4) (n:=144) (k:=.i64) (g:=gb119) (l:=(arrZ 144)) ?hg (N:=34) ?hd (t:=54) ?ho ?hp (by (with_reducible repeat (first|apply kN_|apply kD_|apply kA_));exact BK119.out) Tryd.underlying54 (by kernel_rfl) (od_ (by first|(with_reducible assumption)|assumption)) ?_;(case hd=>rfl);(case hg=>rfl);(case ho=>rfl);(case hp=>rfl))|((with_reducible refine gate_store (t:=54) (p:=2) rfl ?_);refine arr_store (p:=2) (v:=?vv_w14) (n:=144) (k:=.i64) (g:=gb118) (l:=(arrZ 144)) (l2:=(arrZ 144)) ?hg ?hn (t:=54) ?ho ?hp ?hv (by (with_reducible repeat (first|apply kN_|apply kD_|apply kA_));exact BK118.out) (by kernel_rfl) (od_ (by first|(with_reducible assumption)|assumption)) (od_ (by first|(with_reducible assumption)|assumption)) ?_;(case ho=>rfl);(case hg=>rfl);(case hn=>rfl);(case hp=>rfl);(case hv=>rfl);intro w14 hg hx;have n0_:=am_ (hx);have n1_:=am_ (blk_grown (g:=gb119) (o:=.cells (arrC .i64 (arrZ 144)) 54 (0,0)) (by (with_reducible repeat (first|apply kN_|apply kD_|apply kA_));exact BK119.out) hg (fun e_=>NB119_118.out (Option.some.inj e_)));have n2_:=am_ (Below.grown (by repeat (first|(with_reducible first|exact HB.out|apply bA_|apply bN_|apply bD_|refine bS_ ?_ GE118.out|refine bS_ ?_ GE119.out)|exact HB.out)) hg (bZ_ (by repeat (first|(with_reducible first|exact HB.out|apply bA_|apply bN_|apply bD_|refine bS_ ?_ GE118.out|refine bS_ ?_ GE119.out)|exact HB.out))) (fun k_ e_=>by cases e_;exact GE118.out));clear BK118;clear BK119;clear HB;have BK118:=n0_;have BK119:=n1_;have HB:=n2_;clear n0_ n1_ n2_;clear hg hx))
      refine bodyPost_ret (results_ct rfl _ _ gb118 54 (arrC .i64 (arrZ 144)) (0,0) _ rfl (by (with_reducible repeat (first|apply kN_|apply kD_|apply kA_));exact BK118.out) Tryd.underlying54 rfl (by first|(rw [arrC_size,(od_ (by first|(with_reducible assumption)|assumption) : (arrZ 144).length = 144)];kernel_rfl)|kernel_rfl)) rfl ?_;exact ⟨by first|rfl|(simp [errW_none,errW_some] <;> rfl)|(simp [*,errW_none,errW_some] <;> rfl),by repeat (first|(with_reducible first|exact HB.out|apply bA_|apply bN_|apply bD_|refine bS_ ?_ GE118.out|refine bS_ ?_ GE119.out)|exact HB.out)⟩
     ·
      rw [if_neg c13] at H;exact absurd H (by simp)
    ·
     rw [if_neg c12] at H;exact absurd H (by simp)
   ·
    replace c11:=Bool.eq_false_iff.mpr c11;subst c11;have H1 : (spec_l01Lay.l0 kj1 l0 0 (arrZ 144) (arrZ 144)) = some (r1,r2):=by rw [if_neg (show ¬ (false = true) by decide)] at H;exact H
    clear H;have H:=H1;clear H1;have H':=am_ H;clear H
    go_wp2
    go_loopg [5] kj1 (fun kq v5 w'=>∃ (x5_2 : Int) (x119000_2 : List Int) (x120000_2 : List Int),v5 = .int .i64 x5_2 ∧ Aside0 (spec_l01Lay.l0 kq l0 x5_2 x119000_2 x120000_2 = some (r1,r2)) ∧ Aside0 (kq≤kj1) ∧ Aside0 (w'.heap[gb118]? = some (.cells (arrC .i64 x119000_2) 54 (0,0))) ∧ Aside0 (w'.heap[gb119]? = some (.cells (arrC .i64 x120000_2) 54 (0,0))) ∧ Aside0 (Below w.heap.size w w'))
    case atStart=>exact ⟨(0),((arrZ 144)),((arrZ 144)),(by first|rfl|(simp;done)|(simp [*];done)),H',⟨Nat.le_refl _⟩,⟨by (with_reducible repeat (first|apply kN_|apply kD_|apply kA_));exact BK118.out⟩,⟨by (with_reducible repeat (first|apply kN_|apply kD_|apply kA_));exact BK119.out⟩,⟨by repeat (first|(with_reducible first|exact HB.out|apply bA_|apply bN_|apply bD_|refine bS_ ?_ GE118.out|refine bS_ ?_ GE119.out)|exact HB.out)⟩⟩
    case round =>
     clear H';(try clear c1);(try clear p1);(try clear q1);(try clear hx1);(try clear qi1);(try clear c2);(try clear p2);(try clear c6);(try clear c6b0);(try clear c6b1);(try clear p6);(try clear c8);(try clear c10);(try clear c11);(try clear c12);(try clear c12b0);(try clear c12b1);(try clear p12);(try clear q12);(try clear hx12);(try clear qi12);(try clear c13);(try clear c13b0);(try clear c13b1);(try clear hx120_0);(try clear hx120_1);(try clear hx120_2);(try clear hx121_0);(try clear hx121_1);(try clear hx121_2);(try clear hx123_0);(try clear hx123_1);(try clear hx123_2);(try clear hx124_0);(try clear hx124_1);(try clear hx124_2);(try clear hx126_0);(try clear hx126_1);(try clear hx126_2);(try clear hx127_0);(try clear hx127_1);(try clear hx127_2);(try clear p1);(try clear p120);(try clear p121);(try clear p123);(try clear p124);(try clear p126);(try clear p127);(try clear p2);(try clear p6);(try clear q1);(try clear q120);(try clear q121);(try clear q123);(try clear q124);(try clear q126);(try clear q127);obtain ⟨x5_2,x119000_2,x120000_2,rfl,HA,HK2,BK118,BK119,HB⟩:=hrel
     cases gk with
     | zero=>exact absurd HA.out (by simp [spec_l01Lay.l0])
     | succ k2 =>
      have H:=HA.out;clear HA;simp only [spec_l01Lay.l0] at H
      by_cases c15 : 0 < (l0.length : Int)
      ·
       rw [if_pos c15] at H;have c15b0 : decide (0 < (l0.length : Int)) = true:=decide_eq_true c15;have c15b1 : decide (0 < l0.length) = true:=decide_eq_true (by omega);clear c15
       by_cases c16 : x5_2 < (((rd_T25 l0 0).f2).length : Int)
       ·
        rw [if_pos c16] at H;have c16b0 : decide (x5_2 < (((rd_T25 l0 0).f2).length : Int)) = true:=decide_eq_true c16;clear c16
        by_cases c17 : 0≤x5_2
        ·
         rw [if_pos c17] at H;have c17b0 : decide (0≤x5_2) = true:=decide_eq_true c17;clear c17;have HC18:=am_ H;clear H;have p128 : 0≤(0 : Int):=(by omega)
         have q128 : 0 < (l0.length : Int):=od_ (by first|(with_reducible assumption)|assumption);obtain ⟨ad128,A128_2,c128_2,e128,hx128_0,hx128_1,hx128_2,hl128_2,hi128_2⟩:=at_T25 HR0.out 0 p128 q128
         cases e128
         have qi128 : (0 < l0.length) = True:=eq_true (by omega);(try rw [show ((0 : Int)).toNat = 0 from rfl] at hx128_0);(try rw [show 0 * 3 = 0 from rfl] at hx128_0);(try rw [Addr.add_zero'] at hx128_0);(try rw [show ((0 : Int)).toNat = 0 from rfl] at hx128_1);(try rw [show 0 * 3 = 0 from rfl] at hx128_1);(try rw [Addr.add_zero'] at hx128_1);(try rw [show ((0 : Int)).toNat = 0 from rfl] at hx128_2);(try rw [show 0 * 3 = 0 from rfl] at hx128_2);(try rw [Addr.add_zero'] at hx128_2);replace hx128_0:=(HB.out.cell (bl_ w _ hx128_0)).trans hx128_0;replace hx128_1:=(HB.out.cell (bl_ w _ hx128_1)).trans hx128_1;replace hx128_2:=(HB.out.cell (bl_ w _ hx128_2)).trans hx128_2;have HR128_2:=am_ hi128_2;have HC128_2:=am_ hl128_2;clear hi128_2 hl128_2;replace p128:=eq_true p128;replace q128:=eq_true q128;have p129 : 0≤(0 : Int):=(by omega)
         have q129 : 0 < (l0.length : Int):=od_ (by first|(with_reducible assumption)|assumption);obtain ⟨ad129,A129_2,c129_2,e129,hx129_0,hx129_1,hx129_2,hl129_2,hi129_2⟩:=at_T25 HR0.out 0 p129 q129;obtain rfl : ad128 = ad129:=(by injection e129)
         have qi129 : (0 < l0.length) = True:=eq_true (by omega);(try rw [show ((0 : Int)).toNat = 0 from rfl] at hx129_0);(try rw [show 0 * 3 = 0 from rfl] at hx129_0);(try rw [Addr.add_zero'] at hx129_0);(try rw [show ((0 : Int)).toNat = 0 from rfl] at hx129_1);(try rw [show 0 * 3 = 0 from rfl] at hx129_1);(try rw [Addr.add_zero'] at hx129_1);(try rw [show ((0 : Int)).toNat = 0 from rfl] at hx129_2);(try rw [show 0 * 3 = 0 from rfl] at hx129_2);(try rw [Addr.add_zero'] at hx129_2);replace hx129_0:=(HB.out.cell (bl_ w _ hx129_0)).trans hx129_0;replace hx129_1:=(HB.out.cell (bl_ w _ hx129_1)).trans hx129_1;replace hx129_2:=(HB.out.cell (bl_ w _ hx129_2)).trans hx129_2;have HR129_2:=am_ hi129_2;have HC129_2:=am_ hl129_2;clear hi129_2 hl129_2;replace p129:=eq_true p129;replace q129:=eq_true q129;have ea_:=Option.some.inj (hx128_2.symm.trans hx129_2)
         injection ea_ with ea_ en_ ec_
         subst ea_;subst ec_;clear en_;have p130 : 0≤(0 : Int):=(by omega)
         have q130 : 0 < (l0.length : Int):=od_ (by first|(with_reducible assumption)|assumption);obtain ⟨ad130,A130_2,c130_2,e130,hx130_0,hx130_1,hx130_2,hl130_2,hi130_2⟩:=at_T25 HR0.out 0 p130 q130;obtain rfl : ad128 = ad130:=(by injection e130)
         have qi130 : (0 < l0.length) = True:=eq_true (by omega);(try rw [show ((0 : Int)).toNat = 0 from rfl] at hx130_0);(try rw [show 0 * 3 = 0 from rfl] at hx130_0);(try rw [Addr.add_zero'] at hx130_0);(try rw [show ((0 : Int)).toNat = 0 from rfl] at hx130_1);(try rw [show 0 * 3 = 0 from rfl] at hx130_1);(try rw [Addr.add_zero'] at hx130_1);(try rw [show ((0 : Int)).toNat = 0 from rfl] at hx130_2);(try rw [show 0 * 3 = 0 from rfl] at hx130_2);(try rw [Addr.add_zero'] at hx130_2);replace hx130_0:=(HB.out.cell (bl_ w _ hx130_0)).trans hx130_0;replace hx130_1:=(HB.out.cell (bl_ w _ hx130_1)).trans hx130_1;replace hx130_2:=(HB.out.cell (bl_ w _ hx130_2)).trans hx130_2;have HR130_2:=am_ hi130_2;have HC130_2:=am_ hl130_2;clear hi130_2 hl130_2;replace p130:=eq_true p130;replace q130:=eq_true q130;have ea_:=Option.some.inj (hx128_2.symm.trans hx130_2)
         injection ea_ with ea_ en_ ec_
         subst ea_;subst ec_;clear en_;have p131 : 0≤(0 : Int):=(by omega)
         have q131 : 0 < (l0.length : Int):=od_ (by first|(with_reducible assumption)|assumption);obtain ⟨ad131,A131_2,c131_2,e131,hx131_0,hx131_1,hx131_2,hl131_2,hi131_2⟩:=at_T25 HR0.out 0 p131 q131;obtain rfl : ad128 = ad131:=(by injection e131)
         have qi131 : (0 < l0.length) = True:=eq_true (by omega);(try rw [show ((0 : Int)).toNat = 0 from rfl] at hx131_0);(try rw [show 0 * 3 = 0 from rfl] at hx131_0);(try rw [Addr.add_zero'] at hx131_0);(try rw [show ((0 : Int)).toNat = 0 from rfl] at hx131_1);(try rw [show 0 * 3 = 0 from rfl] at hx131_1);(try rw [Addr.add_zero'] at hx131_1);(try rw [show ((0 : Int)).toNat = 0 from rfl] at hx131_2);(try rw [show 0 * 3 = 0 from rfl] at hx131_2);(try rw [Addr.add_zero'] at hx131_2);replace hx131_0:=(HB.out.cell (bl_ w _ hx131_0)).trans hx131_0;replace hx131_1:=(HB.out.cell (bl_ w _ hx131_1)).trans hx131_1;replace hx131_2:=(HB.out.cell (bl_ w _ hx131_2)).trans hx131_2;have HR131_2:=am_ hi131_2;have HC131_2:=am_ hl131_2;clear hi131_2 hl131_2;replace p131:=eq_true p131;replace q131:=eq_true q131;have ea_:=Option.some.inj (hx128_2.symm.trans hx131_2)
         injection ea_ with ea_ en_ ec_
         subst ea_;subst ec_;clear en_;have p132 : 0≤(x5_2 : Int):=od_ (by first|(with_reducible assumption)|assumption);have q132 : x5_2 < (((rd_T25 l0 0).f2).length : Int):=od_ (by first|(with_reducible assumption)|assumption);obtain ⟨ad132,e132,hx132_0,hx132_1,hx132_2,hx132_3⟩:=at_T36 HR131_2.out x5_2 p132 q132
         cases e132
         replace hx132_0:=(HB.out.cell (bl_ w _ hx132_0)).trans hx132_0;replace hx132_1:=(HB.out.cell (bl_ w _ hx132_1)).trans hx132_1;replace hx132_2:=(HB.out.cell (bl_ w _ hx132_2)).trans hx132_2;replace hx132_3:=(HB.out.cell (bl_ w _ hx132_3)).trans hx132_3;replace p132:=eq_true p132;replace q132:=eq_true q132
         go_upto_region 8 with (first|((with_reducible refine gate_dst (N:=6) rfl ?_);(try (refine gate_guard (by rfl) ?_;dsimp only));refine box_event ?hg (N:=6) ?hd (cs:=#[.int .i8 0,.int .i8 0,.int .i8 0,.int .i8 0]) (t:=36) ?hr ?_;(case hd=>rfl);(case hg=>rfl);(case hr=>first|(go_simp;done)|(go_simp;rfl));intro gb133 hg w19 hbox hb;have n0_:=am_ (kB_ (g:=gb118) (o:=.cells (arrC .i64 x119000_2) 54 (0,0)) (by (with_reducible repeat (first|apply kN_|apply kD_|apply kA_));exact BK118.out) hb);have n1_:=am_ (kB_ (g:=gb119) (o:=.cells (arrC .i64 x120000_2) 54 (0,0)) (by (with_reducible repeat (first|apply kN_|apply kD_|apply kA_));exact BK119.out) hb);have n2_:=am_ (bT_ (by repeat (first|(with_reducible first|exact HB.out|apply bA_|apply bN_|apply bD_|refine bS_ ?_ GE118.out|refine bS_ ?_ GE119.out)|exact HB.out)) hb);have n3_:=am_ (hbox);have n4_:=am_ ((by rw [hg];exact (bZ_ (by repeat (first|(with_reducible first|exact HB.out|apply bA_|apply bN_|apply bD_|refine bS_ ?_ GE118.out|refine bS_ ?_ GE119.out)|exact HB.out))) : w.heap.size≤gb133));have n5_:=n4_;have n6_:=am_ ((by rw [hg];exact nL_ (kL_ (g:=gb118) (o:=.cells (arrC .i64 x119000_2) 54 (0,0)) (by (with_reducible repeat (first|apply kN_|apply kD_|apply kA_));exact BK118.out)) : gb118 ≠ gb133));have n7_:=am_ ((by rw [hg];exact nG_ (kL_ (g:=gb118) (o:=.cells (arrC .i64 x119000_2) 54 (0,0)) (by (with_reducible repeat (first|apply kN_|apply kD_|apply kA_));exact BK118.out)) : gb133 ≠ gb118));have n8_:=am_ ((by rw [hg];exact nL_ (kL_ (g:=gb119) (o:=.cells (arrC .i64 x120000_2) 54 (0,0)) (by (with_reducible repeat (first|apply kN_|apply kD_|apply kA_));exact BK119.out)) : gb119 ≠ gb133));have n9_:=am_ ((by rw [hg];exact nG_ (kL_ (g:=gb119) (o:=.cells (arrC .i64 x120000_2) 54 (0,0)) (by (with_reducible repeat (first|apply kN_|apply kD_|apply kA_));exact BK119.out)) : gb133 ≠ gb119));clear BK118;clear BK119;clear HB;have BK118:=n0_;have BK119:=n1_;have HB:=n2_;have BK133:=n3_;have GW133:=n4_;have GE133:=n5_;have NB118_133:=n6_;have NB133_118:=n7_;have NB119_133:=n8_;have NB133_119:=n9_;clear n0_ n1_ n2_ n3_ n4_ n5_ n6_ n7_ n8_ n9_;clear hb hbox hg;have hnb20:=NB133_118.out;have hnc20:=NB118_133.out;have hnb21:=NB133_119.out;have hnc21:=NB119_133.out;have hcz22_0 : w19.cell? ⟨gb133,0,none⟩ = some (.int .i8 0):=(kC_ BK133.out 0).trans rfl;have hcz22_1 : w19.cell? ⟨gb133,1,none⟩ = some (.int .i8 0):=(kC_ BK133.out 1).trans rfl;have hcz22_2 : w19.cell? ⟨gb133,2,none⟩ = some (.int .i8 0):=(kC_ BK133.out 2).trans rfl;have hcz22_3 : w19.cell? ⟨gb133,3,none⟩ = some (.int .i8 0):=(kC_ BK133.out 3).trans rfl;have hfz22_0:=kF_ BK133.out 0;have hfz22_1:=kF_ BK133.out 1;have hfz22_2:=kF_ BK133.out 2;have hfz22_3:=kF_ BK133.out 3))
         (try simp only [Act.put,z1_,z2_,z3_])
         go_cut [71] (fun v71 wc=>∃ (kq : Nat) (x71_17 : Bool),v71 = .bool x71_17 ∧ Aside0 (spec_l01Lay.j2 kq l0 x5_2 x71_17 x119000_2 x120000_2 ((rd_T36 ((rd_T25 l0 0).f2) x5_2).f0) ((rd_T36 ((rd_T25 l0 0).f2) x5_2).f1) ((rd_T36 ((rd_T25 l0 0).f2) x5_2).f2) ((rd_T36 ((rd_T25 l0 0).f2) x5_2).f3) = some (r1,r2)) ∧ Aside0 (kq≤k2) ∧ Aside0 (wc.heap[gb118]? = some (.cells (arrC .i64 x119000_2) 54 (0,0))) ∧ Aside0 (wc.heap[gb119]? = some (.cells (arrC .i64 x120000_2) 54 (0,0))) ∧ Aside0 (wc.heap[gb133]? = some (.cells #[.int .i8 ((rd_T36 ((rd_T25 l0 0).f2) x5_2).f0),.int .i8 ((rd_T36 ((rd_T25 l0 0).f2) x5_2).f1),.int .i8 ((rd_T36 ((rd_T25 l0 0).f2) x5_2).f2),.int .i8 ((rd_T36 ((rd_T25 l0 0).f2) x5_2).f3)] 36 (0,0))) ∧ Aside0 (Below w.heap.size w wc))
         case first =>
          have H:=HC18.out;clear HC18;replace H:=Option.bind_eq_some_iff.mp H;obtain ⟨t134,A230,H⟩:=H;replace H : (if t134 = true then (if x5_2 > 0 then (if 0≤(wrap64 (x5_2 - 1)) then (if (wrap64 (x5_2 - 1)) < (((rd_T25 l0 0).f2).length : Int) then ((spec_l01Before.f ((rd_T36 ((rd_T25 l0 0).f2) (wrap64 (x5_2 - 1))).f0) ((rd_T36 ((rd_T25 l0 0).f2) (wrap64 (x5_2 - 1))).f1) ((rd_T36 ((rd_T25 l0 0).f2) (wrap64 (x5_2 - 1))).f2) ((rd_T36 ((rd_T25 l0 0).f2) (wrap64 (x5_2 - 1))).f3) ((rd_T36 ((rd_T25 l0 0).f2) x5_2).f0) ((rd_T36 ((rd_T25 l0 0).f2) x5_2).f1) ((rd_T36 ((rd_T25 l0 0).f2) x5_2).f2) ((rd_T36 ((rd_T25 l0 0).f2) x5_2).f3)).bind fun t138=>(spec_l01Lay.j2 k2 l0 x5_2 (!t138) x119000_2 x120000_2 ((rd_T36 ((rd_T25 l0 0).f2) x5_2).f0) ((rd_T36 ((rd_T25 l0 0).f2) x5_2).f1) ((rd_T36 ((rd_T25 l0 0).f2) x5_2).f2) ((rd_T36 ((rd_T25 l0 0).f2) x5_2).f3))) else (none)) else (none)) else (spec_l01Lay.j2 k2 l0 x5_2 false x119000_2 x120000_2 ((rd_T36 ((rd_T25 l0 0).f2) x5_2).f0) ((rd_T36 ((rd_T25 l0 0).f2) x5_2).f1) ((rd_T36 ((rd_T25 l0 0).f2) x5_2).f2) ((rd_T36 ((rd_T25 l0 0).f2) x5_2).f3))) else (spec_l01Lay.j2 k2 l0 x5_2 true x119000_2 x120000_2 ((rd_T36 ((rd_T25 l0 0).f2) x5_2).f0) ((rd_T36 ((rd_T25 l0 0).f2) x5_2).f1) ((rd_T36 ((rd_T25 l0 0).f2) x5_2).f2) ((rd_T36 ((rd_T25 l0 0).f2) x5_2).f3))) = some (r1,r2):=H;have A23:=am_ A230;clear A230
          by_cases c24 : t134 = true
          ·
           subst c24;have H1 : (if x5_2 > 0 then (if 0≤(wrap64 (x5_2 - 1)) then (if (wrap64 (x5_2 - 1)) < (((rd_T25 l0 0).f2).length : Int) then ((spec_l01Before.f ((rd_T36 ((rd_T25 l0 0).f2) (wrap64 (x5_2 - 1))).f0) ((rd_T36 ((rd_T25 l0 0).f2) (wrap64 (x5_2 - 1))).f1) ((rd_T36 ((rd_T25 l0 0).f2) (wrap64 (x5_2 - 1))).f2) ((rd_T36 ((rd_T25 l0 0).f2) (wrap64 (x5_2 - 1))).f3) ((rd_T36 ((rd_T25 l0 0).f2) x5_2).f0) ((rd_T36 ((rd_T25 l0 0).f2) x5_2).f1) ((rd_T36 ((rd_T25 l0 0).f2) x5_2).f2) ((rd_T36 ((rd_T25 l0 0).f2) x5_2).f3)).bind fun t138=>(spec_l01Lay.j2 k2 l0 x5_2 (!t138) x119000_2 x120000_2 ((rd_T36 ((rd_T25 l0 0).f2) x5_2).f0) ((rd_T36 ((rd_T25 l0 0).f2) x5_2).f1) ((rd_T36 ((rd_T25 l0 0).f2) x5_2).f2) ((rd_T36 ((rd_T25 l0 0).f2) x5_2).f3))) else (none)) else (none)) else (spec_l01Lay.j2 k2 l0 x5_2 false x119000_2 x120000_2 ((rd_T36 ((rd_T25 l0 0).f2) x5_2).f0) ((rd_T36 ((rd_T25 l0 0).f2) x5_2).f1) ((rd_T36 ((rd_T25 l0 0).f2) x5_2).f2) ((rd_T36 ((rd_T25 l0 0).f2) x5_2).f3))) = some (r1,r2):=by rw [if_pos rfl] at H;exact H
           clear H;have H:=H1;clear H1
           by_cases c25 : x5_2 > 0
           ·
            rw [if_pos c25] at H;have c25b0 : decide (0 < x5_2) = true:=decide_eq_true c25;clear c25
            (first|rw [c25b0]|(simp only [i64_w,i32_w];rw [c25b0])|skip)
            obtain ⟨ji26,hji26⟩ : ∃ j_ : Int,(wrap64 (x5_2 - 1)) = j_:=⟨_,rfl⟩
            replace H : (if 0≤(ji26) then (if (ji26) < (((rd_T25 l0 0).f2).length : Int) then ((spec_l01Before.f ((rd_T36 ((rd_T25 l0 0).f2) (ji26)).f0) ((rd_T36 ((rd_T25 l0 0).f2) (ji26)).f1) ((rd_T36 ((rd_T25 l0 0).f2) (ji26)).f2) ((rd_T36 ((rd_T25 l0 0).f2) (ji26)).f3) ((rd_T36 ((rd_T25 l0 0).f2) x5_2).f0) ((rd_T36 ((rd_T25 l0 0).f2) x5_2).f1) ((rd_T36 ((rd_T25 l0 0).f2) x5_2).f2) ((rd_T36 ((rd_T25 l0 0).f2) x5_2).f3)).bind fun t138=>(spec_l01Lay.j2 k2 l0 x5_2 (!t138) x119000_2 x120000_2 ((rd_T36 ((rd_T25 l0 0).f2) x5_2).f0) ((rd_T36 ((rd_T25 l0 0).f2) x5_2).f1) ((rd_T36 ((rd_T25 l0 0).f2) x5_2).f2) ((rd_T36 ((rd_T25 l0 0).f2) x5_2).f3))) else (none)) else (none)) = some (r1,r2):=by first|(rw [hji26] at H;exact H)|(simp only [hji26] at H ⊢;exact H)
            (try rw [hji26] at A23);have hji26w : (IntKind.i64.wrap (x5_2 - 1)) = ji26:=(i64_w _).trans hji26
            by_cases c27 : 0≤(ji26)
            ·
             rw [if_pos c27] at H;have c27b0 : decide (0≤(ji26)) = true:=decide_eq_true c27;clear c27
             by_cases c28 : (ji26) < (((rd_T25 l0 0).f2).length : Int)
             ·
              rw [if_pos c28] at H;have c28b0 : decide ((ji26) < (((rd_T25 l0 0).f2).length : Int)) = true:=decide_eq_true c28;clear c28;replace H:=Option.bind_eq_some_iff.mp H;obtain ⟨t138,A290,H⟩:=H;replace H : (spec_l01Lay.j2 k2 l0 x5_2 (!t138) x119000_2 x120000_2 ((rd_T36 ((rd_T25 l0 0).f2) x5_2).f0) ((rd_T36 ((rd_T25 l0 0).f2) x5_2).f1) ((rd_T36 ((rd_T25 l0 0).f2) x5_2).f2) ((rd_T36 ((rd_T25 l0 0).f2) x5_2).f3)) = some (r1,r2):=H;have A29:=am_ A290;clear A290;have H':=am_ H;clear H
              try go_wp2
              have n0_ : Aside0 (((((w19.setCell ⟨gb133,0,none⟩ (.int .i8 ((rd_T36 ((rd_T25 l0 0).f2) x5_2).f0))).setCell ⟨gb133,1,none⟩ (.int .i8 ((rd_T36 ((rd_T25 l0 0).f2) x5_2).f1))).setCell ⟨gb133,2,none⟩ (.int .i8 ((rd_T36 ((rd_T25 l0 0).f2) x5_2).f2))).setCell ⟨gb133,3,none⟩ (.int .i8 ((rd_T36 ((rd_T25 l0 0).f2) x5_2).f3))).heap[gb118]? = some (.cells (arrC .i64 x119000_2) 54 (0,0))):=⟨by (with_reducible repeat (first|apply kN_|apply kD_|apply kA_));refine kX_ ?_ NB118_133.out _;(with_reducible repeat (first|apply kN_|apply kD_|apply kA_));refine kX_ ?_ NB118_133.out _;(with_reducible repeat (first|apply kN_|apply kD_|apply kA_));refine kX_ ?_ NB118_133.out _;(with_reducible repeat (first|apply kN_|apply kD_|apply kA_));refine kX_ ?_ NB118_133.out _;(with_reducible repeat (first|apply kN_|apply kD_|apply kA_));exact BK118.out⟩
              have n1_ : Aside0 (((((w19.setCell ⟨gb133,0,none⟩ (.int .i8 ((rd_T36 ((rd_T25 l0 0).f2) x5_2).f0))).setCell ⟨gb133,1,none⟩ (.int .i8 ((rd_T36 ((rd_T25 l0 0).f2) x5_2).f1))).setCell ⟨gb133,2,none⟩ (.int .i8 ((rd_T36 ((rd_T25 l0 0).f2) x5_2).f2))).setCell ⟨gb133,3,none⟩ (.int .i8 ((rd_T36 ((rd_T25 l0 0).f2) x5_2).f3))).heap[gb119]? = some (.cells (arrC .i64 x120000_2) 54 (0,0))):=⟨by (with_reducible repeat (first|apply kN_|apply kD_|apply kA_));refine kX_ ?_ NB119_133.out _;(with_reducible repeat (first|apply kN_|apply kD_|apply kA_));refine kX_ ?_ NB119_133.out _;(with_reducible repeat (first|apply kN_|apply kD_|apply kA_));refine kX_ ?_ NB119_133.out _;(with_reducible repeat (first|apply kN_|apply kD_|apply kA_));refine kX_ ?_ NB119_133.out _;(with_reducible repeat (first|apply kN_|apply kD_|apply kA_));exact BK119.out⟩
              have n2_ : Aside0 (((((w19.setCell ⟨gb133,0,none⟩ (.int .i8 ((rd_T36 ((rd_T25 l0 0).f2) x5_2).f0))).setCell ⟨gb133,1,none⟩ (.int .i8 ((rd_T36 ((rd_T25 l0 0).f2) x5_2).f1))).setCell ⟨gb133,2,none⟩ (.int .i8 ((rd_T36 ((rd_T25 l0 0).f2) x5_2).f2))).setCell ⟨gb133,3,none⟩ (.int .i8 ((rd_T36 ((rd_T25 l0 0).f2) x5_2).f3))).heap[gb133]? = some (.cells #[.int .i8 ((rd_T36 ((rd_T25 l0 0).f2) x5_2).f0),.int .i8 ((rd_T36 ((rd_T25 l0 0).f2) x5_2).f1),.int .i8 ((rd_T36 ((rd_T25 l0 0).f2) x5_2).f2),.int .i8 ((rd_T36 ((rd_T25 l0 0).f2) x5_2).f3)] 36 (0,0))):=⟨by (with_reducible repeat (first|apply kN_|apply kD_|apply kA_));refine blk_put (cs:=#[.int .i8 ((rd_T36 ((rd_T25 l0 0).f2) x5_2).f0),.int .i8 ((rd_T36 ((rd_T25 l0 0).f2) x5_2).f1),.int .i8 ((rd_T36 ((rd_T25 l0 0).f2) x5_2).f2),.int .i8 0]) ?_ 3 _ rfl;(with_reducible repeat (first|apply kN_|apply kD_|apply kA_));refine blk_put (cs:=#[.int .i8 ((rd_T36 ((rd_T25 l0 0).f2) x5_2).f0),.int .i8 ((rd_T36 ((rd_T25 l0 0).f2) x5_2).f1),.int .i8 0,.int .i8 0]) ?_ 2 _ rfl;(with_reducible repeat (first|apply kN_|apply kD_|apply kA_));refine blk_put (cs:=#[.int .i8 ((rd_T36 ((rd_T25 l0 0).f2) x5_2).f0),.int .i8 0,.int .i8 0,.int .i8 0]) ?_ 1 _ rfl;(with_reducible repeat (first|apply kN_|apply kD_|apply kA_));refine blk_put (cs:=#[.int .i8 0,.int .i8 0,.int .i8 0,.int .i8 0]) ?_ 0 _ rfl;(with_reducible repeat (first|apply kN_|apply kD_|apply kA_));exact BK133.out⟩
              have n3_ : Aside0 (Below w.heap.size w ((((w19.setCell ⟨gb133,0,none⟩ (.int .i8 ((rd_T36 ((rd_T25 l0 0).f2) x5_2).f0))).setCell ⟨gb133,1,none⟩ (.int .i8 ((rd_T36 ((rd_T25 l0 0).f2) x5_2).f1))).setCell ⟨gb133,2,none⟩ (.int .i8 ((rd_T36 ((rd_T25 l0 0).f2) x5_2).f2))).setCell ⟨gb133,3,none⟩ (.int .i8 ((rd_T36 ((rd_T25 l0 0).f2) x5_2).f3)))):=⟨by repeat (first|(with_reducible first|exact HB.out|apply bA_|apply bN_|apply bD_|refine bS_ ?_ GE118.out|refine bS_ ?_ GE119.out|refine bS_ ?_ GE133.out)|exact HB.out)⟩
              (try clear BK118);(try clear BK119);(try clear BK133);(try clear HB);generalize ((((w19.setCell ⟨gb133,0,none⟩ (.int .i8 ((rd_T36 ((rd_T25 l0 0).f2) x5_2).f0))).setCell ⟨gb133,1,none⟩ (.int .i8 ((rd_T36 ((rd_T25 l0 0).f2) x5_2).f1))).setCell ⟨gb133,2,none⟩ (.int .i8 ((rd_T36 ((rd_T25 l0 0).f2) x5_2).f2))).setCell ⟨gb133,3,none⟩ (.int .i8 ((rd_T36 ((rd_T25 l0 0).f2) x5_2).f3))) = w30 at n0_ n1_ n2_ n3_ ⊢;have BK118:=n0_;have BK119:=n1_;have BK133:=n2_;have HB:=n3_;clear n0_ n1_ n2_ n3_;have n0_:=am_ (kD_ BK118.out);have n1_:=am_ (kD_ BK119.out);have n2_:=am_ (kD_ BK133.out);have n3_:=am_ (bD_ HB.out);clear BK118;clear BK119;clear BK133;clear HB;have BK118:=n0_;have BK119:=n1_;have BK133:=n2_;have HB:=n3_;clear n0_ n1_ n2_ n3_;have p135 : 0≤(0 : Int):=(by omega)
              have q135 : 0 < (l0.length : Int):=od_ (by first|(with_reducible assumption)|assumption);obtain ⟨ad135,A135_2,c135_2,e135,hx135_0,hx135_1,hx135_2,hl135_2,hi135_2⟩:=at_T25 HR0.out 0 p135 q135;have hw135_2:=hx135_2;(try rw [show ((0 : Int)).toNat = 0 from rfl] at hw135_2);(try rw [show 0 * 3 = 0 from rfl] at hw135_2);(try rw [Addr.add_zero'] at hw135_2);have hw135_1:=hx135_1;(try rw [show ((0 : Int)).toNat = 0 from rfl] at hw135_1);(try rw [show 0 * 3 = 0 from rfl] at hw135_1);(try rw [Addr.add_zero'] at hw135_1);have hw135_0:=hx135_0;(try rw [show ((0 : Int)).toNat = 0 from rfl] at hw135_0);(try rw [show 0 * 3 = 0 from rfl] at hw135_0);(try rw [Addr.add_zero'] at hw135_0);obtain rfl : ad128 = ad135:=(by injection e135)
              have qi135 : (0 < l0.length) = True:=eq_true (by omega);(try rw [show ((0 : Int)).toNat = 0 from rfl] at hx135_0);(try rw [show 0 * 3 = 0 from rfl] at hx135_0);(try rw [Addr.add_zero'] at hx135_0);(try rw [show ((0 : Int)).toNat = 0 from rfl] at hx135_1);(try rw [show 0 * 3 = 0 from rfl] at hx135_1);(try rw [Addr.add_zero'] at hx135_1);(try rw [show ((0 : Int)).toNat = 0 from rfl] at hx135_2);(try rw [show 0 * 3 = 0 from rfl] at hx135_2);(try rw [Addr.add_zero'] at hx135_2);replace hx135_0:=(HB.out.cell (bl_ w _ hx135_0)).trans hx135_0;replace hx135_1:=(HB.out.cell (bl_ w _ hx135_1)).trans hx135_1;replace hx135_2:=(HB.out.cell (bl_ w _ hx135_2)).trans hx135_2;have HR135_2:=am_ hi135_2;have HC135_2:=am_ hl135_2;clear hi135_2 hl135_2;replace p135:=eq_true p135;replace q135:=eq_true q135;have p136 : 0≤(0 : Int):=(by omega)
              have q136 : 0 < (l0.length : Int):=od_ (by first|(with_reducible assumption)|assumption);obtain ⟨ad136,A136_2,c136_2,e136,hx136_0,hx136_1,hx136_2,hl136_2,hi136_2⟩:=at_T25 HR0.out 0 p136 q136;have hw136_2:=hx136_2;(try rw [show ((0 : Int)).toNat = 0 from rfl] at hw136_2);(try rw [show 0 * 3 = 0 from rfl] at hw136_2);(try rw [Addr.add_zero'] at hw136_2);have hw136_1:=hx136_1;(try rw [show ((0 : Int)).toNat = 0 from rfl] at hw136_1);(try rw [show 0 * 3 = 0 from rfl] at hw136_1);(try rw [Addr.add_zero'] at hw136_1);have hw136_0:=hx136_0;(try rw [show ((0 : Int)).toNat = 0 from rfl] at hw136_0);(try rw [show 0 * 3 = 0 from rfl] at hw136_0);(try rw [Addr.add_zero'] at hw136_0);obtain rfl : ad128 = ad136:=(by injection e136)
              have qi136 : (0 < l0.length) = True:=eq_true (by omega);(try rw [show ((0 : Int)).toNat = 0 from rfl] at hx136_0);(try rw [show 0 * 3 = 0 from rfl] at hx136_0);(try rw [Addr.add_zero'] at hx136_0);(try rw [show ((0 : Int)).toNat = 0 from rfl] at hx136_1);(try rw [show 0 * 3 = 0 from rfl] at hx136_1);(try rw [Addr.add_zero'] at hx136_1);(try rw [show ((0 : Int)).toNat = 0 from rfl] at hx136_2);(try rw [show 0 * 3 = 0 from rfl] at hx136_2);(try rw [Addr.add_zero'] at hx136_2);replace hx136_0:=(HB.out.cell (bl_ w _ hx136_0)).trans hx136_0;replace hx136_1:=(HB.out.cell (bl_ w _ hx136_1)).trans hx136_1;replace hx136_2:=(HB.out.cell (bl_ w _ hx136_2)).trans hx136_2;have HR136_2:=am_ hi136_2;have HC136_2:=am_ hl136_2;clear hi136_2 hl136_2;replace p136:=eq_true p136;replace q136:=eq_true q136;have ea_:=Option.some.inj (hx135_2.symm.trans hx136_2)
              injection ea_ with ea_ en_ ec_
              subst ea_;subst ec_;clear en_;have p137 : 0≤((ji26) : Int):=od_ (by first|(with_reducible assumption)|assumption);have q137 : (ji26) < (((rd_T25 l0 0).f2).length : Int):=od_ (by first|(with_reducible assumption)|assumption);obtain ⟨ad137,e137,hx137_0,hx137_1,hx137_2,hx137_3⟩:=at_T36 HR136_2.out (ji26) p137 q137;have hw137_3:=hx137_3;have hw137_2:=hx137_2;have hw137_1:=hx137_1;have hw137_0:=hx137_0
              cases e137
              replace hx137_0:=(HB.out.cell (bl_ w _ hx137_0)).trans hx137_0;replace hx137_1:=(HB.out.cell (bl_ w _ hx137_1)).trans hx137_1;replace hx137_2:=(HB.out.cell (bl_ w _ hx137_2)).trans hx137_2;replace hx137_3:=(HB.out.cell (bl_ w _ hx137_3)).trans hx137_3;replace p137:=eq_true p137;replace q137:=eq_true q137;refine start_ (n:=21) (S:=fun w'=>w'.cell? ⟨gb133,0,none⟩ = some (.int .i8 ((rd_T36 ((rd_T25 l0 0).f2) x5_2).f0)) ∧ w'.cell? ⟨gb133,1,none⟩ = some (.int .i8 ((rd_T36 ((rd_T25 l0 0).f2) x5_2).f1)) ∧ w'.cell? ⟨gb133,2,none⟩ = some (.int .i8 ((rd_T36 ((rd_T25 l0 0).f2) x5_2).f2)) ∧ w'.cell? ⟨gb133,3,none⟩ = some (.int .i8 ((rd_T36 ((rd_T25 l0 0).f2) x5_2).f3)) ∧ w'.cell? ad128 = some (.int .i8 ((rd_T25 l0 0).f0)) ∧ w'.cell? ⟨ad128.block,ad128.off + 1,none⟩ = some (.int .i8 ((rd_T25 l0 0).f1)) ∧ w'.cell? ⟨ad128.block,ad128.off + 2,none⟩ = some (.slice (some ad137) ((rd_T25 l0 0).f2).length c135_2) ∧ w'.cell? ad128 = some (.int .i8 ((rd_T25 l0 0).f0)) ∧ w'.cell? ⟨ad128.block,ad128.off + 1,none⟩ = some (.int .i8 ((rd_T25 l0 0).f1)) ∧ w'.cell? ⟨ad128.block,ad128.off + 2,none⟩ = some (.slice (some ad137) ((rd_T25 l0 0).f2).length c135_2) ∧ w'.cell? (ad137.add (((ji26)).toNat * 4)) = some (.int .i8 ((rd_T36 ((rd_T25 l0 0).f2) (ji26)).f0)) ∧ w'.cell? ⟨(ad137.add (((ji26)).toNat * 4)).block,(ad137.add (((ji26)).toNat * 4)).off + 1,none⟩ = some (.int .i8 ((rd_T36 ((rd_T25 l0 0).f2) (ji26)).f1)) ∧ w'.cell? ⟨(ad137.add (((ji26)).toNat * 4)).block,(ad137.add (((ji26)).toNat * 4)).off + 2,none⟩ = some (.int .i8 ((rd_T36 ((rd_T25 l0 0).f2) (ji26)).f2)) ∧ w'.cell? ⟨(ad137.add (((ji26)).toNat * 4)).block,(ad137.add (((ji26)).toNat * 4)).off + 3,none⟩ = some (.int .i8 ((rd_T36 ((rd_T25 l0 0).f2) (ji26)).f3))) (ds:=[]) (mB_ 21 0) (by kernel_rfl) rfl rfl ⟨(kC_ BK133.out 0).trans rfl,(kC_ BK133.out 1).trans rfl,(kC_ BK133.out 2).trans rfl,(kC_ BK133.out 3).trans rfl,((HB.out.cell (bl_ w _ hw135_0)).trans hw135_0),((HB.out.cell (bl_ w _ hw135_1)).trans hw135_1),((HB.out.cell (bl_ w _ hw135_2)).trans hw135_2),((HB.out.cell (bl_ w _ hw136_0)).trans hw136_0),((HB.out.cell (bl_ w _ hw136_1)).trans hw136_1),((HB.out.cell (bl_ w _ hw136_2)).trans hw136_2),((HB.out.cell (bl_ w _ hw137_0)).trans hw137_0),((HB.out.cell (bl_ w _ hw137_1)).trans hw137_1),((HB.out.cell (bl_ w _ hw137_2)).trans hw137_2),((HB.out.cell (bl_ w _ hw137_3)).trans hw137_3)⟩ (fun hHeld=>?_);refine with_tabW spec_l01Lay.tab8 spec_l01Lay.bits8 (fun HT_ HW_=>?_);generalize w30.drew = w31 at BK118 BK119 BK133 HB HR135_2 HR136_2 hx135_0 hx135_1 hx135_2 hx136_0 hx136_1 hx136_2 hx137_0 hx137_1 hx137_2 hx137_3 hHeld ⊢;refine pure_ (i:=0) (N:=some 51) (v:=?_) (a':=?_) (mB_ 21 1) rfl rfl (any_of HT_.out (by kernel_rfl)) (fun _ _ _ h=>h) (Or.inl ⟨by rfl,?_⟩) ?_ ?_;rotate_left
              ·
               intro w'
               go_simp
               with_reducible rfl
              rotate_left
              ·
               simp only [Act.put,z1_,z2_,z3_,i64_w,i32_w]
               rfl
              refine take_ (i:=1) (N:=some 52) (v:=?_) (a':=?_) (mB_ 21 3) rfl rfl (take_ofW HT_.out HW_.out (by kernel_rfl)) (fun _ _ _ h=>h) (Or.inl ⟨by rfl,?_⟩) hHeld ?_ ?_;rotate_left
              ·
               rintro w' ⟨s0,s1,s2,s3,s4,s5,s6,s7,s8,s9,s10,s11,s12,s13⟩
               go_simp
               with_reducible rfl
              rotate_left
              ·
               simp only [Act.put,z1_,z2_,z3_,i64_w,i32_w]
               rfl
              refine one_ (i:=2) (N:=some 53) (mB_ 21 7) rfl rfl (one_of HT_.out (by kernel_rfl)) (by decide) (fun K hK=>?_);refine goes_ Tryd.func31 (by kernel_rfl) rfl #[.pointer (some ad128),.agg #[.int .i8 ((rd_T36 ((rd_T25 l0 0).f2) x5_2).f0),.int .i8 ((rd_T36 ((rd_T25 l0 0).f2) x5_2).f1),.int .i8 ((rd_T36 ((rd_T25 l0 0).f2) x5_2).f2),.int .i8 ((rd_T36 ((rd_T25 l0 0).f2) x5_2).f3)]] (by rfl) rfl rfl (by (try simp only [List.map_toArray,List.map_cons,List.map_nil]);first|done|rfl|(simp only [List.length_drop,List.length_take];rfl)) ?_
              with_reducible refine (spec_l01Lies.calls _ c0 l0 ((rd_T36 ((rd_T25 l0 0).f2) x5_2).f0) ((rd_T36 ((rd_T25 l0 0).f2) x5_2).f1) ((rd_T36 ((rd_T25 l0 0).f2) x5_2).f2) ((rd_T36 ((rd_T25 l0 0).f2) x5_2).f3) true _ ?side1 ?side2 A23.out).mono ?_
              (case side1=>repeat (first|exact (cB_ HR0.out HB.out)|(with_reducible refine Kd.C_alloc ?_ _)|(with_reducible refine Kd.C_drewN ?_ _)|(with_reducible refine Kd.C_drew ?_)))
              (case side2=>exact HC0.out)
              rintro e w32 ⟨rfl,hb⟩;refine ⟨_,rfl,?_⟩;have n0_:=am_ (kB_ (g:=gb118) (o:=.cells (arrC .i64 x119000_2) 54 (0,0)) (by (with_reducible repeat (first|apply kN_|apply kD_|apply kA_));exact BK118.out) hb);have n1_:=am_ (kB_ (g:=gb119) (o:=.cells (arrC .i64 x120000_2) 54 (0,0)) (by (with_reducible repeat (first|apply kN_|apply kD_|apply kA_));exact BK119.out) hb);have n2_:=am_ (kB_ (g:=gb133) (o:=.cells #[.int .i8 ((rd_T36 ((rd_T25 l0 0).f2) x5_2).f0),.int .i8 ((rd_T36 ((rd_T25 l0 0).f2) x5_2).f1),.int .i8 ((rd_T36 ((rd_T25 l0 0).f2) x5_2).f2),.int .i8 ((rd_T36 ((rd_T25 l0 0).f2) x5_2).f3)] 36 (0,0)) (by (with_reducible repeat (first|apply kN_|apply kD_|apply kA_));exact BK133.out) hb);have n3_:=am_ (bT_ (by repeat (first|(with_reducible first|exact HB.out|apply bA_|apply bN_|apply bD_|refine bS_ ?_ GE118.out|refine bS_ ?_ GE119.out|refine bS_ ?_ GE133.out)|exact HB.out)) hb);clear BK118;clear BK119;clear BK133;clear HB;have BK118:=n0_;have BK119:=n1_;have BK133:=n2_;have HB:=n3_;clear n0_ n1_ n2_ n3_;(try clear hb);(try clear hb2);(try clear hk);(try clear hi);refine hK.out _ _ ⟨(kC_ BK133.out 0).trans rfl,(kC_ BK133.out 1).trans rfl,(kC_ BK133.out 2).trans rfl,(kC_ BK133.out 3).trans rfl,((HB.out.cell (bl_ w _ hw135_0)).trans hw135_0),((HB.out.cell (bl_ w _ hw135_1)).trans hw135_1),((HB.out.cell (bl_ w _ hw135_2)).trans hw135_2),((HB.out.cell (bl_ w _ hw136_0)).trans hw136_0),((HB.out.cell (bl_ w _ hw136_1)).trans hw136_1),((HB.out.cell (bl_ w _ hw136_2)).trans hw136_2),((HB.out.cell (bl_ w _ hw137_0)).trans hw137_0),((HB.out.cell (bl_ w _ hw137_1)).trans hw137_1),((HB.out.cell (bl_ w _ hw137_2)).trans hw137_2),((HB.out.cell (bl_ w _ hw137_3)).trans hw137_3)⟩ (fun hHeld=>?_);clear hK K;refine norm_ (a':=?_) ?_ ?_;rotate_left
              ·
               show Act.put _ (some 53) _ = _
               simp only [Act.put,z1_,z2_,z3_,i64_w,i32_w]
               rfl
              refine pure_ (i:=3) (N:=some 54) (v:=?_) (a':=?_) (mB_ 21 15) rfl rfl (any_of HT_.out (by kernel_rfl)) (fun _ _ _ h=>h) (Or.inl ⟨by rfl,?_⟩) ?_ ?_;rotate_left
              ·
               intro w'
               go_simp
               with_reducible rfl
              rotate_left
              ·
               simp only [Act.put,z1_,z2_,z3_,i64_w,i32_w]
               rfl
              refine pure_ (i:=4) (N:=some 55) (v:=?_) (a':=?_) (mB_ 21 31) rfl rfl (any_of HT_.out (by kernel_rfl)) (fun _ _ _ h=>h) (Or.inl ⟨by rfl,?_⟩) ?_ ?_;rotate_left
              ·
               intro w'
               go_simp
               with_reducible rfl
              rotate_left
              ·
               simp only [Act.put,z1_,z2_,z3_,i64_w,i32_w]
               rfl
              refine pure_ (i:=5) (N:=some 56) (v:=?_) (a':=?_) (mB_ 21 63) rfl rfl (any_of HT_.out (by kernel_rfl)) (fun _ _ _ h=>h) (Or.inl ⟨by rfl,?_⟩) ?_ ?_;rotate_left
              ·
               intro w'
               go_simp
               with_reducible rfl
              rotate_left
              ·
               simp only [Act.put,z1_,z2_,z3_,i64_w,i32_w]
               rfl
              refine pure_ (i:=6) (N:=some 57) (v:=?_) (a':=?_) (mB_ 21 127) rfl rfl (any_of HT_.out (by kernel_rfl)) (fun _ _ _ h=>h) (Or.inl ⟨by rfl,?_⟩) ?_ ?_;rotate_left
              ·
               intro w'
               go_simp
               with_reducible rfl
              rotate_left
              ·
               simp only [Act.put,z1_,z2_,z3_,i64_w,i32_w]
               rfl
              refine pure_ (i:=7) (N:=some 58) (v:=?_) (a':=?_) (mB_ 21 255) rfl rfl (any_of HT_.out (by kernel_rfl)) (fun _ _ _ h=>h) (Or.inl ⟨by rfl,?_⟩) ?_ ?_;rotate_left
              ·
               intro w'
               go_simp
               with_reducible rfl
              rotate_left
              ·
               simp only [Act.put,z1_,z2_,z3_,i64_w,i32_w]
               rfl
              refine pure_ (i:=8) (N:=some 59) (v:=?_) (a':=?_) (mB_ 21 511) rfl rfl (any_of HT_.out (by kernel_rfl)) (fun _ _ _ h=>h) (Or.inl ⟨by rfl,?_⟩) ?_ ?_;rotate_left
              ·
               intro w'
               go_simp
               with_reducible rfl
              rotate_left
              ·
               simp only [Act.put,z1_,z2_,z3_,i64_w,i32_w]
               rfl
              refine pure_ (i:=9) (N:=some 60) (v:=?_) (a':=?_) (mB_ 21 1023) rfl rfl (any_of HT_.out (by kernel_rfl)) (fun _ _ _ h=>h) (Or.inl ⟨by rfl,?_⟩) ?_ ?_;rotate_left
              ·
               intro w'
               go_simp
               with_reducible rfl
              rotate_left
              ·
               simp only [Act.put,z1_,z2_,z3_,i64_w,i32_w]
               rfl
              refine pure_ (i:=10) (N:=some 61) (v:=?_) (a':=?_) (mB_ 21 2047) rfl rfl (any_of HT_.out (by kernel_rfl)) (fun _ _ _ h=>h) (Or.inl ⟨by rfl,?_⟩) ?_ ?_;rotate_left
              ·
               intro w'
               go_simp
               with_reducible rfl
              rotate_left
              ·
               simp only [Act.put,z1_,z2_,z3_,i64_w,i32_w]
               rfl
              refine pure_ (i:=12) (N:=some 63) (v:=?_) (a':=?_) (mB_ 21 6143) rfl rfl (any_of HT_.out (by kernel_rfl)) (fun _ _ _ h=>h) (Or.inl ⟨by rfl,?_⟩) ?_ ?_;rotate_left
              ·
               intro w'
               go_simp
               with_reducible rfl
              rotate_left
              ·
               simp only [Act.put,z1_,z2_,z3_,i64_w,i32_w]
               rfl
              refine pure_ (i:=13) (N:=some 64) (v:=?_) (a':=?_) (mB_ 21 14335) rfl rfl (any_of HT_.out (by kernel_rfl)) (fun _ _ _ h=>h) (Or.inl ⟨by rfl,?_⟩) ?_ ?_;rotate_left
              ·
               intro w'
               go_simp
               with_reducible rfl
              rotate_left
              ·
               simp only [Act.put,z1_,z2_,z3_,i64_w,i32_w]
               rfl
              refine take_ (i:=11) (N:=some 62) (v:=?_) (a':=?_) (mB_ 21 16383) rfl rfl (take_ofW HT_.out HW_.out (by kernel_rfl)) (fun _ _ _ h=>h) (Or.inl ⟨by rfl,?_⟩) hHeld ?_ ?_;rotate_left
              ·
               rintro w' ⟨s0,s1,s2,s3,s4,s5,s6,s7,s8,s9,s10,s11,s12,s13⟩
               go_simp
               with_reducible rfl
              rotate_left
              ·
               simp only [Act.put,z1_,z2_,z3_,i64_w,i32_w]
               rfl
              refine pure_ (i:=14) (N:=some 65) (v:=?_) (a':=?_) (mB_ 21 32767) rfl rfl (any_of HT_.out (by kernel_rfl)) (fun _ _ _ h=>h) (Or.inl ⟨by rfl,?_⟩) ?_ ?_;rotate_left
              ·
               intro w'
               go_simp
               with_reducible rfl
              rotate_left
              ·
               simp only [Act.put,z1_,z2_,z3_,i64_w,i32_w]
               rfl
              refine take_ (i:=15) (N:=some 66) (v:=?_) (a':=?_) (mB_ 21 65535) rfl rfl (take_ofW HT_.out HW_.out (by kernel_rfl)) (fun _ _ _ h=>h) (Or.inl ⟨by rfl,?_⟩) hHeld ?_ ?_;rotate_left
              ·
               rintro w' ⟨s0,s1,s2,s3,s4,s5,s6,s7,s8,s9,s10,s11,s12,s13⟩
               go_simp
               with_reducible rfl
              rotate_left
              ·
               simp only [Act.put,z1_,z2_,z3_,i64_w,i32_w]
               rfl
              refine take_ (i:=16) (N:=some 67) (v:=?_) (a':=?_) (mB_ 21 131071) rfl rfl (take_ofW HT_.out HW_.out (by kernel_rfl)) (fun _ _ _ h=>h) (Or.inl ⟨by rfl,?_⟩) hHeld ?_ ?_;rotate_left
              ·
               rintro w' ⟨s0,s1,s2,s3,s4,s5,s6,s7,s8,s9,s10,s11,s12,s13⟩
               go_simp
               with_reducible rfl
              rotate_left
              ·
               simp only [Act.put,z1_,z2_,z3_,i64_w,i32_w]
               rfl
              refine one_ (i:=17) (N:=some 68) (mB_ 21 262143) rfl rfl (one_of HT_.out (by kernel_rfl)) (by decide) (fun K hK=>?_);refine goes_ Tryd.func32 (by kernel_rfl) rfl #[.agg #[.int .i8 ((rd_T36 ((rd_T25 l0 0).f2) (ji26)).f0),.int .i8 ((rd_T36 ((rd_T25 l0 0).f2) (ji26)).f1),.int .i8 ((rd_T36 ((rd_T25 l0 0).f2) (ji26)).f2),.int .i8 ((rd_T36 ((rd_T25 l0 0).f2) (ji26)).f3)],.agg #[.int .i8 ((rd_T36 ((rd_T25 l0 0).f2) x5_2).f0),.int .i8 ((rd_T36 ((rd_T25 l0 0).f2) x5_2).f1),.int .i8 ((rd_T36 ((rd_T25 l0 0).f2) x5_2).f2),.int .i8 ((rd_T36 ((rd_T25 l0 0).f2) x5_2).f3)]] (by rfl) rfl rfl (by (try simp only [List.map_toArray,List.map_cons,List.map_nil]);first|done|(simp only [hji26];rfl)|rfl|(simp only [List.length_drop,List.length_take];rfl)) ?_
              with_reducible refine (spec_l01Before.calls ((rd_T36 ((rd_T25 l0 0).f2) (ji26)).f0) ((rd_T36 ((rd_T25 l0 0).f2) (ji26)).f1) ((rd_T36 ((rd_T25 l0 0).f2) (ji26)).f2) ((rd_T36 ((rd_T25 l0 0).f2) (ji26)).f3) ((rd_T36 ((rd_T25 l0 0).f2) x5_2).f0) ((rd_T36 ((rd_T25 l0 0).f2) x5_2).f1) ((rd_T36 ((rd_T25 l0 0).f2) x5_2).f2) ((rd_T36 ((rd_T25 l0 0).f2) x5_2).f3) t138 _ A29.out).mono ?_
              rintro e w33 ⟨rfl,hb⟩;refine ⟨_,rfl,?_⟩;have n0_:=am_ (kB_ (g:=gb118) (o:=.cells (arrC .i64 x119000_2) 54 (0,0)) (by (with_reducible repeat (first|apply kN_|apply kD_|apply kA_));exact BK118.out) hb);have n1_:=am_ (kB_ (g:=gb119) (o:=.cells (arrC .i64 x120000_2) 54 (0,0)) (by (with_reducible repeat (first|apply kN_|apply kD_|apply kA_));exact BK119.out) hb);have n2_:=am_ (kB_ (g:=gb133) (o:=.cells #[.int .i8 ((rd_T36 ((rd_T25 l0 0).f2) x5_2).f0),.int .i8 ((rd_T36 ((rd_T25 l0 0).f2) x5_2).f1),.int .i8 ((rd_T36 ((rd_T25 l0 0).f2) x5_2).f2),.int .i8 ((rd_T36 ((rd_T25 l0 0).f2) x5_2).f3)] 36 (0,0)) (by (with_reducible repeat (first|apply kN_|apply kD_|apply kA_));exact BK133.out) hb);have n3_:=am_ (bT_ (by repeat (first|(with_reducible first|exact HB.out|apply bA_|apply bN_|apply bD_|refine bS_ ?_ GE118.out|refine bS_ ?_ GE119.out|refine bS_ ?_ GE133.out)|exact HB.out)) hb);clear BK118;clear BK119;clear BK133;clear HB;have BK118:=n0_;have BK119:=n1_;have BK133:=n2_;have HB:=n3_;clear n0_ n1_ n2_ n3_;(try clear hb);(try clear hb2);(try clear hk);(try clear hi);refine hK.out _ _ ⟨(kC_ BK133.out 0).trans rfl,(kC_ BK133.out 1).trans rfl,(kC_ BK133.out 2).trans rfl,(kC_ BK133.out 3).trans rfl,((HB.out.cell (bl_ w _ hw135_0)).trans hw135_0),((HB.out.cell (bl_ w _ hw135_1)).trans hw135_1),((HB.out.cell (bl_ w _ hw135_2)).trans hw135_2),((HB.out.cell (bl_ w _ hw136_0)).trans hw136_0),((HB.out.cell (bl_ w _ hw136_1)).trans hw136_1),((HB.out.cell (bl_ w _ hw136_2)).trans hw136_2),((HB.out.cell (bl_ w _ hw137_0)).trans hw137_0),((HB.out.cell (bl_ w _ hw137_1)).trans hw137_1),((HB.out.cell (bl_ w _ hw137_2)).trans hw137_2),((HB.out.cell (bl_ w _ hw137_3)).trans hw137_3)⟩ (fun hHeld=>?_);clear hK K;refine norm_ (a':=?_) ?_ ?_;rotate_left
              ·
               show Act.put _ (some 68) _ = _
               simp only [Act.put,z1_,z2_,z3_,i64_w,i32_w]
               rfl
              refine pure_ (i:=18) (N:=some 69) (v:=?_) (a':=?_) (mB_ 21 524287) rfl rfl (any_of HT_.out (by kernel_rfl)) (fun _ _ _ h=>h) (Or.inl ⟨by rfl,?_⟩) ?_ ?_;rotate_left
              ·
               intro w'
               go_simp
               with_reducible rfl
              rotate_left
              ·
               simp only [Act.put,z1_,z2_,z3_,i64_w,i32_w]
               rfl
              refine pure_ (i:=19) (N:=some 70) (v:=?_) (a':=?_) (mB_ 21 1048575) rfl rfl (any_of HT_.out (by kernel_rfl)) (fun _ _ _ h=>h) (Or.inl ⟨by rfl,?_⟩) ?_ ?_;rotate_left
              ·
               intro w'
               go_simp
               with_reducible rfl
              rotate_left
              ·
               simp only [Act.put,z1_,z2_,z3_,i64_w,i32_w]
               rfl
              refine pure_ (i:=20) (N:=some 71) (v:=?_) (a':=?_) (mB_ 21 2097151) rfl rfl (any_of HT_.out (by kernel_rfl)) (fun _ _ _ h=>h) (Or.inl ⟨by rfl,?_⟩) ?_ ?_;rotate_left
              ·
               intro w'
               go_simp
               with_reducible rfl
              rotate_left
              ·
               simp only [Act.put,z1_,z2_,z3_,i64_w,i32_w]
               rfl
              refine done_ (done_of HT_.out (by kernel_rfl)) ?_
              try go_wp2
              go_meet
              case rel=>exact ⟨_,(!t138),(by first|rfl|(simp;done)|(simp [*];done)),H',⟨by have:=HJ1.out;have:=HK2.out;first|omega|exact Nat.le_refl _⟩,⟨by (with_reducible repeat (first|apply kN_|apply kD_|apply kA_));exact BK118.out⟩,⟨by (with_reducible repeat (first|apply kN_|apply kD_|apply kA_));exact BK119.out⟩,⟨by (with_reducible repeat (first|apply kN_|apply kD_|apply kA_));exact BK133.out⟩,⟨by repeat (first|(with_reducible first|exact HB.out|apply bA_|apply bN_|apply bD_|refine bS_ ?_ GE118.out|refine bS_ ?_ GE119.out|refine bS_ ?_ GE133.out)|exact HB.out)⟩⟩
             ·
              rw [if_neg c28] at H;exact absurd H (by simp)
            ·
             rw [if_neg c27] at H;exact absurd H (by simp)
           ·
            rw [if_neg c25] at H;have c25b0 : decide (0 < x5_2) = false:=decide_eq_false c25;clear c25
            (first|rw [c25b0]|(simp only [i64_w,i32_w];rw [c25b0])|skip)
            have H':=am_ H;clear H
            try go_wp2
            have n0_ : Aside0 (((((w19.setCell ⟨gb133,0,none⟩ (.int .i8 ((rd_T36 ((rd_T25 l0 0).f2) x5_2).f0))).setCell ⟨gb133,1,none⟩ (.int .i8 ((rd_T36 ((rd_T25 l0 0).f2) x5_2).f1))).setCell ⟨gb133,2,none⟩ (.int .i8 ((rd_T36 ((rd_T25 l0 0).f2) x5_2).f2))).setCell ⟨gb133,3,none⟩ (.int .i8 ((rd_T36 ((rd_T25 l0 0).f2) x5_2).f3))).heap[gb118]? = some (.cells (arrC .i64 x119000_2) 54 (0,0))):=⟨by (with_reducible repeat (first|apply kN_|apply kD_|apply kA_));refine kX_ ?_ NB118_133.out _;(with_reducible repeat (first|apply kN_|apply kD_|apply kA_));refine kX_ ?_ NB118_133.out _;(with_reducible repeat (first|apply kN_|apply kD_|apply kA_));refine kX_ ?_ NB118_133.out _;(with_reducible repeat (first|apply kN_|apply kD_|apply kA_));refine kX_ ?_ NB118_133.out _;(with_reducible repeat (first|apply kN_|apply kD_|apply kA_));exact BK118.out⟩
            have n1_ : Aside0 (((((w19.setCell ⟨gb133,0,none⟩ (.int .i8 ((rd_T36 ((rd_T25 l0 0).f2) x5_2).f0))).setCell ⟨gb133,1,none⟩ (.int .i8 ((rd_T36 ((rd_T25 l0 0).f2) x5_2).f1))).setCell ⟨gb133,2,none⟩ (.int .i8 ((rd_T36 ((rd_T25 l0 0).f2) x5_2).f2))).setCell ⟨gb133,3,none⟩ (.int .i8 ((rd_T36 ((rd_T25 l0 0).f2) x5_2).f3))).heap[gb119]? = some (.cells (arrC .i64 x120000_2) 54 (0,0))):=⟨by (with_reducible repeat (first|apply kN_|apply kD_|apply kA_));refine kX_ ?_ NB119_133.out _;(with_reducible repeat (first|apply kN_|apply kD_|apply kA_));refine kX_ ?_ NB119_133.out _;(with_reducible repeat (first|apply kN_|apply kD_|apply kA_));refine kX_ ?_ NB119_133.out _;(with_reducible repeat (first|apply kN_|apply kD_|apply kA_));refine kX_ ?_ NB119_133.out _;(with_reducible repeat (first|apply kN_|apply kD_|apply kA_));exact BK119.out⟩
            have n2_ : Aside0 (((((w19.setCell ⟨gb133,0,none⟩ (.int .i8 ((rd_T36 ((rd_T25 l0 0).f2) x5_2).f0))).setCell ⟨gb133,1,none⟩ (.int .i8 ((rd_T36 ((rd_T25 l0 0).f2) x5_2).f1))).setCell ⟨gb133,2,none⟩ (.int .i8 ((rd_T36 ((rd_T25 l0 0).f2) x5_2).f2))).setCell ⟨gb133,3,none⟩ (.int .i8 ((rd_T36 ((rd_T25 l0 0).f2) x5_2).f3))).heap[gb133]? = some (.cells #[.int .i8 ((rd_T36 ((rd_T25 l0 0).f2) x5_2).f0),.int .i8 ((rd_T36 ((rd_T25 l0 0).f2) x5_2).f1),.int .i8 ((rd_T36 ((rd_T25 l0 0).f2) x5_2).f2),.int .i8 ((rd_T36 ((rd_T25 l0 0).f2) x5_2).f3)] 36 (0,0))):=⟨by (with_reducible repeat (first|apply kN_|apply kD_|apply kA_));refine blk_put (cs:=#[.int .i8 ((rd_T36 ((rd_T25 l0 0).f2) x5_2).f0),.int .i8 ((rd_T36 ((rd_T25 l0 0).f2) x5_2).f1),.int .i8 ((rd_T36 ((rd_T25 l0 0).f2) x5_2).f2),.int .i8 0]) ?_ 3 _ rfl;(with_reducible repeat (first|apply kN_|apply kD_|apply kA_));refine blk_put (cs:=#[.int .i8 ((rd_T36 ((rd_T25 l0 0).f2) x5_2).f0),.int .i8 ((rd_T36 ((rd_T25 l0 0).f2) x5_2).f1),.int .i8 0,.int .i8 0]) ?_ 2 _ rfl;(with_reducible repeat (first|apply kN_|apply kD_|apply kA_));refine blk_put (cs:=#[.int .i8 ((rd_T36 ((rd_T25 l0 0).f2) x5_2).f0),.int .i8 0,.int .i8 0,.int .i8 0]) ?_ 1 _ rfl;(with_reducible repeat (first|apply kN_|apply kD_|apply kA_));refine blk_put (cs:=#[.int .i8 0,.int .i8 0,.int .i8 0,.int .i8 0]) ?_ 0 _ rfl;(with_reducible repeat (first|apply kN_|apply kD_|apply kA_));exact BK133.out⟩
            have n3_ : Aside0 (Below w.heap.size w ((((w19.setCell ⟨gb133,0,none⟩ (.int .i8 ((rd_T36 ((rd_T25 l0 0).f2) x5_2).f0))).setCell ⟨gb133,1,none⟩ (.int .i8 ((rd_T36 ((rd_T25 l0 0).f2) x5_2).f1))).setCell ⟨gb133,2,none⟩ (.int .i8 ((rd_T36 ((rd_T25 l0 0).f2) x5_2).f2))).setCell ⟨gb133,3,none⟩ (.int .i8 ((rd_T36 ((rd_T25 l0 0).f2) x5_2).f3)))):=⟨by repeat (first|(with_reducible first|exact HB.out|apply bA_|apply bN_|apply bD_|refine bS_ ?_ GE118.out|refine bS_ ?_ GE119.out|refine bS_ ?_ GE133.out)|exact HB.out)⟩
            (try clear BK118);(try clear BK119);(try clear BK133);(try clear HB);generalize ((((w19.setCell ⟨gb133,0,none⟩ (.int .i8 ((rd_T36 ((rd_T25 l0 0).f2) x5_2).f0))).setCell ⟨gb133,1,none⟩ (.int .i8 ((rd_T36 ((rd_T25 l0 0).f2) x5_2).f1))).setCell ⟨gb133,2,none⟩ (.int .i8 ((rd_T36 ((rd_T25 l0 0).f2) x5_2).f2))).setCell ⟨gb133,3,none⟩ (.int .i8 ((rd_T36 ((rd_T25 l0 0).f2) x5_2).f3))) = w34 at n0_ n1_ n2_ n3_ ⊢;have BK118:=n0_;have BK119:=n1_;have BK133:=n2_;have HB:=n3_;clear n0_ n1_ n2_ n3_;have n0_:=am_ (kD_ BK118.out);have n1_:=am_ (kD_ BK119.out);have n2_:=am_ (kD_ BK133.out);have n3_:=am_ (bD_ HB.out);clear BK118;clear BK119;clear BK133;clear HB;have BK118:=n0_;have BK119:=n1_;have BK133:=n2_;have HB:=n3_;clear n0_ n1_ n2_ n3_;refine start_ (n:=21) (S:=fun w'=>w'.cell? ⟨gb133,0,none⟩ = some (.int .i8 ((rd_T36 ((rd_T25 l0 0).f2) x5_2).f0)) ∧ w'.cell? ⟨gb133,1,none⟩ = some (.int .i8 ((rd_T36 ((rd_T25 l0 0).f2) x5_2).f1)) ∧ w'.cell? ⟨gb133,2,none⟩ = some (.int .i8 ((rd_T36 ((rd_T25 l0 0).f2) x5_2).f2)) ∧ w'.cell? ⟨gb133,3,none⟩ = some (.int .i8 ((rd_T36 ((rd_T25 l0 0).f2) x5_2).f3))) (ds:=[]) (mB_ 21 0) (by kernel_rfl) rfl rfl ⟨(kC_ BK133.out 0).trans rfl,(kC_ BK133.out 1).trans rfl,(kC_ BK133.out 2).trans rfl,(kC_ BK133.out 3).trans rfl⟩ (fun hHeld=>?_);refine with_tabW spec_l01Lay.tab8 spec_l01Lay.bits8 (fun HT_ HW_=>?_);generalize w34.drew = w35 at BK118 BK119 BK133 HB hHeld ⊢;refine pure_ (i:=0) (N:=some 51) (v:=?_) (a':=?_) (mB_ 21 1) rfl rfl (any_of HT_.out (by kernel_rfl)) (fun _ _ _ h=>h) (Or.inl ⟨by rfl,?_⟩) ?_ ?_;rotate_left
            ·
             intro w'
             go_simp
             with_reducible rfl
            rotate_left
            ·
             simp only [Act.put,z1_,z2_,z3_,i64_w,i32_w]
             rfl
            refine take_ (i:=1) (N:=some 52) (v:=?_) (a':=?_) (mB_ 21 3) rfl rfl (take_ofW HT_.out HW_.out (by kernel_rfl)) (fun _ _ _ h=>h) (Or.inl ⟨by rfl,?_⟩) hHeld ?_ ?_;rotate_left
            ·
             rintro w' ⟨s0,s1,s2,s3⟩
             go_simp
             with_reducible rfl
            rotate_left
            ·
             simp only [Act.put,z1_,z2_,z3_,i64_w,i32_w]
             rfl
            refine one_ (i:=2) (N:=some 53) (mB_ 21 7) rfl rfl (one_of HT_.out (by kernel_rfl)) (by decide) (fun K hK=>?_);refine goes_ Tryd.func31 (by kernel_rfl) rfl #[.pointer (some ad128),.agg #[.int .i8 ((rd_T36 ((rd_T25 l0 0).f2) x5_2).f0),.int .i8 ((rd_T36 ((rd_T25 l0 0).f2) x5_2).f1),.int .i8 ((rd_T36 ((rd_T25 l0 0).f2) x5_2).f2),.int .i8 ((rd_T36 ((rd_T25 l0 0).f2) x5_2).f3)]] (by rfl) rfl rfl (by (try simp only [List.map_toArray,List.map_cons,List.map_nil]);first|done|rfl|(simp only [List.length_drop,List.length_take];rfl)) ?_
            with_reducible refine (spec_l01Lies.calls _ c0 l0 ((rd_T36 ((rd_T25 l0 0).f2) x5_2).f0) ((rd_T36 ((rd_T25 l0 0).f2) x5_2).f1) ((rd_T36 ((rd_T25 l0 0).f2) x5_2).f2) ((rd_T36 ((rd_T25 l0 0).f2) x5_2).f3) true _ ?side1 ?side2 A23.out).mono ?_
            (case side1=>repeat (first|exact (cB_ HR0.out HB.out)|(with_reducible refine Kd.C_alloc ?_ _)|(with_reducible refine Kd.C_drewN ?_ _)|(with_reducible refine Kd.C_drew ?_)))
            (case side2=>exact HC0.out)
            rintro e w36 ⟨rfl,hb⟩;refine ⟨_,rfl,?_⟩;have n0_:=am_ (kB_ (g:=gb118) (o:=.cells (arrC .i64 x119000_2) 54 (0,0)) (by (with_reducible repeat (first|apply kN_|apply kD_|apply kA_));exact BK118.out) hb);have n1_:=am_ (kB_ (g:=gb119) (o:=.cells (arrC .i64 x120000_2) 54 (0,0)) (by (with_reducible repeat (first|apply kN_|apply kD_|apply kA_));exact BK119.out) hb);have n2_:=am_ (kB_ (g:=gb133) (o:=.cells #[.int .i8 ((rd_T36 ((rd_T25 l0 0).f2) x5_2).f0),.int .i8 ((rd_T36 ((rd_T25 l0 0).f2) x5_2).f1),.int .i8 ((rd_T36 ((rd_T25 l0 0).f2) x5_2).f2),.int .i8 ((rd_T36 ((rd_T25 l0 0).f2) x5_2).f3)] 36 (0,0)) (by (with_reducible repeat (first|apply kN_|apply kD_|apply kA_));exact BK133.out) hb);have n3_:=am_ (bT_ (by repeat (first|(with_reducible first|exact HB.out|apply bA_|apply bN_|apply bD_|refine bS_ ?_ GE118.out|refine bS_ ?_ GE119.out|refine bS_ ?_ GE133.out)|exact HB.out)) hb);clear BK118;clear BK119;clear BK133;clear HB;have BK118:=n0_;have BK119:=n1_;have BK133:=n2_;have HB:=n3_;clear n0_ n1_ n2_ n3_;(try clear hb);(try clear hb2);(try clear hk);(try clear hi);refine hK.out _ _ ⟨(kC_ BK133.out 0).trans rfl,(kC_ BK133.out 1).trans rfl,(kC_ BK133.out 2).trans rfl,(kC_ BK133.out 3).trans rfl⟩ (fun hHeld=>?_);clear hK K;refine norm_ (a':=?_) ?_ ?_;rotate_left
            ·
             show Act.put _ (some 53) _ = _
             simp only [Act.put,z1_,z2_,z3_,i64_w,i32_w]
             rfl
            refine pure_ (i:=3) (N:=some 54) (v:=?_) (a':=?_) (mB_ 21 15) rfl rfl (any_of HT_.out (by kernel_rfl)) (fun _ _ _ h=>h) (Or.inl ⟨by rfl,?_⟩) ?_ ?_;rotate_left
            ·
             intro w'
             go_simp
             with_reducible rfl
            rotate_left
            ·
             simp only [Act.put,z1_,z2_,z3_,i64_w,i32_w]
             rfl
            refine pure_ (i:=4) (N:=some 55) (v:=?_) (a':=?_) (mB_ 21 31) rfl rfl (any_of HT_.out (by kernel_rfl)) (fun _ _ _ h=>h) (Or.inl ⟨by rfl,?_⟩) ?_ ?_;rotate_left
            ·
             intro w'
             go_simp
             with_reducible rfl
            rotate_left
            ·
             simp only [Act.put,z1_,z2_,z3_,i64_w,i32_w]
             rfl
            refine pure_ (i:=5) (N:=some 56) (v:=?_) (a':=?_) (mB_ 21 63) rfl rfl (any_of HT_.out (by kernel_rfl)) (fun _ _ _ h=>h) (Or.inl ⟨by rfl,?_⟩) ?_ ?_;rotate_left
            ·
             intro w'
             go_simp
             with_reducible rfl
            rotate_left
            ·
             simp only [Act.put,z1_,z2_,z3_,i64_w,i32_w]
             rfl
            refine pure_ (i:=6) (N:=some 57) (v:=?_) (a':=?_) (mB_ 21 127) rfl rfl (any_of HT_.out (by kernel_rfl)) (fun _ _ _ h=>h) (Or.inl ⟨by rfl,?_⟩) ?_ ?_;rotate_left
            ·
             intro w'
             go_simp
             with_reducible rfl
            rotate_left
            ·
             simp only [Act.put,z1_,z2_,z3_,i64_w,i32_w]
             rfl
            refine pure_ (i:=7) (N:=some 58) (v:=?_) (a':=?_) (mB_ 21 255) rfl rfl (any_of HT_.out (by kernel_rfl)) (fun _ _ _ h=>h) (Or.inl ⟨by rfl,?_⟩) ?_ ?_;rotate_left
            ·
             intro w'
             go_simp
             with_reducible rfl
            rotate_left
            ·
             simp only [Act.put,z1_,z2_,z3_,i64_w,i32_w]
             rfl
            refine pure_ (i:=8) (N:=some 59) (v:=undef) (a':=?_) (mB_ 21 511) rfl rfl (any_of HT_.out (by kernel_rfl)) (fun _ _ _ h=>h) (Or.inr ⟨by rfl,rfl⟩) ?_ ?_;rotate_left
            ·
             simp only [Act.put,z1_,z2_,z3_,i64_w,i32_w]
             rfl
            refine pure_ (i:=9) (N:=some 60) (v:=undef) (a':=?_) (mB_ 21 1023) rfl rfl (any_of HT_.out (by kernel_rfl)) (fun _ _ _ h=>h) (Or.inr ⟨by rfl,rfl⟩) ?_ ?_;rotate_left
            ·
             simp only [Act.put,z1_,z2_,z3_,i64_w,i32_w]
             rfl
            refine pure_ (i:=10) (N:=some 61) (v:=undef) (a':=?_) (mB_ 21 2047) rfl rfl (any_of HT_.out (by kernel_rfl)) (fun _ _ _ h=>h) (Or.inr ⟨by rfl,rfl⟩) ?_ ?_;rotate_left
            ·
             simp only [Act.put,z1_,z2_,z3_,i64_w,i32_w]
             rfl
            refine pure_ (i:=11) (N:=some 62) (v:=undef) (a':=?_) (mB_ 21 4095) rfl rfl (any_of HT_.out (by kernel_rfl)) (fun _ _ _ h=>h) (Or.inr ⟨by rfl,rfl⟩) ?_ ?_;rotate_left
            ·
             simp only [Act.put,z1_,z2_,z3_,i64_w,i32_w]
             rfl
            refine pure_ (i:=12) (N:=some 63) (v:=undef) (a':=?_) (mB_ 21 8191) rfl rfl (any_of HT_.out (by kernel_rfl)) (fun _ _ _ h=>h) (Or.inr ⟨by rfl,rfl⟩) ?_ ?_;rotate_left
            ·
             simp only [Act.put,z1_,z2_,z3_,i64_w,i32_w]
             rfl
            refine pure_ (i:=13) (N:=some 64) (v:=undef) (a':=?_) (mB_ 21 16383) rfl rfl (any_of HT_.out (by kernel_rfl)) (fun _ _ _ h=>h) (Or.inr ⟨by rfl,rfl⟩) ?_ ?_;rotate_left
            ·
             simp only [Act.put,z1_,z2_,z3_,i64_w,i32_w]
             rfl
            refine pure_ (i:=14) (N:=some 65) (v:=undef) (a':=?_) (mB_ 21 32767) rfl rfl (any_of HT_.out (by kernel_rfl)) (fun _ _ _ h=>h) (Or.inr ⟨by rfl,rfl⟩) ?_ ?_;rotate_left
            ·
             simp only [Act.put,z1_,z2_,z3_,i64_w,i32_w]
             rfl
            refine pure_ (i:=15) (N:=some 66) (v:=undef) (a':=?_) (mB_ 21 65535) rfl rfl (any_of HT_.out (by kernel_rfl)) (fun _ _ _ h=>h) (Or.inr ⟨by rfl,rfl⟩) ?_ ?_;rotate_left
            ·
             simp only [Act.put,z1_,z2_,z3_,i64_w,i32_w]
             rfl
            refine pure_ (i:=16) (N:=some 67) (v:=undef) (a':=?_) (mB_ 21 131071) rfl rfl (any_of HT_.out (by kernel_rfl)) (fun _ _ _ h=>h) (Or.inr ⟨by rfl,rfl⟩) ?_ ?_;rotate_left
            ·
             simp only [Act.put,z1_,z2_,z3_,i64_w,i32_w]
             rfl
            refine pure_ (i:=17) (N:=some 68) (v:=undef) (a':=?_) (mB_ 21 262143) rfl rfl (any_of HT_.out (by kernel_rfl)) (fun _ _ _ h=>h) (Or.inr ⟨by rfl,rfl⟩) ?_ ?_;rotate_left
            ·
             simp only [Act.put,z1_,z2_,z3_,i64_w,i32_w]
             rfl
            refine pure_ (i:=18) (N:=some 69) (v:=undef) (a':=?_) (mB_ 21 524287) rfl rfl (any_of HT_.out (by kernel_rfl)) (fun _ _ _ h=>h) (Or.inr ⟨by rfl,rfl⟩) ?_ ?_;rotate_left
            ·
             simp only [Act.put,z1_,z2_,z3_,i64_w,i32_w]
             rfl
            refine pure_ (i:=19) (N:=some 70) (v:=?_) (a':=?_) (mB_ 21 1048575) rfl rfl (any_of HT_.out (by kernel_rfl)) (fun _ _ _ h=>h) (Or.inl ⟨by rfl,?_⟩) ?_ ?_;rotate_left
            ·
             intro w'
             go_simp
             with_reducible rfl
            rotate_left
            ·
             simp only [Act.put,z1_,z2_,z3_,i64_w,i32_w]
             rfl
            refine pure_ (i:=20) (N:=some 71) (v:=?_) (a':=?_) (mB_ 21 2097151) rfl rfl (any_of HT_.out (by kernel_rfl)) (fun _ _ _ h=>h) (Or.inl ⟨by rfl,?_⟩) ?_ ?_;rotate_left
            ·
             intro w'
             go_simp
             with_reducible rfl
            rotate_left
            ·
             simp only [Act.put,z1_,z2_,z3_,i64_w,i32_w]
             rfl
            refine done_ (done_of HT_.out (by kernel_rfl)) ?_
            try go_wp2
            go_meet
            case rel=>exact ⟨_,(false),(by first|rfl|(simp;done)|(simp [*];done)),H',⟨by have:=HJ1.out;have:=HK2.out;first|omega|exact Nat.le_refl _⟩,⟨by (with_reducible repeat (first|apply kN_|apply kD_|apply kA_));exact BK118.out⟩,⟨by (with_reducible repeat (first|apply kN_|apply kD_|apply kA_));exact BK119.out⟩,⟨by (with_reducible repeat (first|apply kN_|apply kD_|apply kA_));exact BK133.out⟩,⟨by repeat (first|(with_reducible first|exact HB.out|apply bA_|apply bN_|apply bD_|refine bS_ ?_ GE118.out|refine bS_ ?_ GE119.out|refine bS_ ?_ GE133.out)|exact HB.out)⟩⟩
          ·
           replace c24:=Bool.eq_false_iff.mpr c24;subst c24;have H1 : (spec_l01Lay.j2 k2 l0 x5_2 true x119000_2 x120000_2 ((rd_T36 ((rd_T25 l0 0).f2) x5_2).f0) ((rd_T36 ((rd_T25 l0 0).f2) x5_2).f1) ((rd_T36 ((rd_T25 l0 0).f2) x5_2).f2) ((rd_T36 ((rd_T25 l0 0).f2) x5_2).f3)) = some (r1,r2):=by rw [if_neg (show ¬ (false = true) by decide)] at H;exact H
           clear H;have H:=H1;clear H1;have H':=am_ H;clear H
           try go_wp2
           have n0_ : Aside0 (((((w19.setCell ⟨gb133,0,none⟩ (.int .i8 ((rd_T36 ((rd_T25 l0 0).f2) x5_2).f0))).setCell ⟨gb133,1,none⟩ (.int .i8 ((rd_T36 ((rd_T25 l0 0).f2) x5_2).f1))).setCell ⟨gb133,2,none⟩ (.int .i8 ((rd_T36 ((rd_T25 l0 0).f2) x5_2).f2))).setCell ⟨gb133,3,none⟩ (.int .i8 ((rd_T36 ((rd_T25 l0 0).f2) x5_2).f3))).heap[gb118]? = some (.cells (arrC .i64 x119000_2) 54 (0,0))):=⟨by (with_reducible repeat (first|apply kN_|apply kD_|apply kA_));refine kX_ ?_ NB118_133.out _;(with_reducible repeat (first|apply kN_|apply kD_|apply kA_));refine kX_ ?_ NB118_133.out _;(with_reducible repeat (first|apply kN_|apply kD_|apply kA_));refine kX_ ?_ NB118_133.out _;(with_reducible repeat (first|apply kN_|apply kD_|apply kA_));refine kX_ ?_ NB118_133.out _;(with_reducible repeat (first|apply kN_|apply kD_|apply kA_));exact BK118.out⟩
           have n1_ : Aside0 (((((w19.setCell ⟨gb133,0,none⟩ (.int .i8 ((rd_T36 ((rd_T25 l0 0).f2) x5_2).f0))).setCell ⟨gb133,1,none⟩ (.int .i8 ((rd_T36 ((rd_T25 l0 0).f2) x5_2).f1))).setCell ⟨gb133,2,none⟩ (.int .i8 ((rd_T36 ((rd_T25 l0 0).f2) x5_2).f2))).setCell ⟨gb133,3,none⟩ (.int .i8 ((rd_T36 ((rd_T25 l0 0).f2) x5_2).f3))).heap[gb119]? = some (.cells (arrC .i64 x120000_2) 54 (0,0))):=⟨by (with_reducible repeat (first|apply kN_|apply kD_|apply kA_));refine kX_ ?_ NB119_133.out _;(with_reducible repeat (first|apply kN_|apply kD_|apply kA_));refine kX_ ?_ NB119_133.out _;(with_reducible repeat (first|apply kN_|apply kD_|apply kA_));refine kX_ ?_ NB119_133.out _;(with_reducible repeat (first|apply kN_|apply kD_|apply kA_));refine kX_ ?_ NB119_133.out _;(with_reducible repeat (first|apply kN_|apply kD_|apply kA_));exact BK119.out⟩
           have n2_ : Aside0 (((((w19.setCell ⟨gb133,0,none⟩ (.int .i8 ((rd_T36 ((rd_T25 l0 0).f2) x5_2).f0))).setCell ⟨gb133,1,none⟩ (.int .i8 ((rd_T36 ((rd_T25 l0 0).f2) x5_2).f1))).setCell ⟨gb133,2,none⟩ (.int .i8 ((rd_T36 ((rd_T25 l0 0).f2) x5_2).f2))).setCell ⟨gb133,3,none⟩ (.int .i8 ((rd_T36 ((rd_T25 l0 0).f2) x5_2).f3))).heap[gb133]? = some (.cells #[.int .i8 ((rd_T36 ((rd_T25 l0 0).f2) x5_2).f0),.int .i8 ((rd_T36 ((rd_T25 l0 0).f2) x5_2).f1),.int .i8 ((rd_T36 ((rd_T25 l0 0).f2) x5_2).f2),.int .i8 ((rd_T36 ((rd_T25 l0 0).f2) x5_2).f3)] 36 (0,0))):=⟨by (with_reducible repeat (first|apply kN_|apply kD_|apply kA_));refine blk_put (cs:=#[.int .i8 ((rd_T36 ((rd_T25 l0 0).f2) x5_2).f0),.int .i8 ((rd_T36 ((rd_T25 l0 0).f2) x5_2).f1),.int .i8 ((rd_T36 ((rd_T25 l0 0).f2) x5_2).f2),.int .i8 0]) ?_ 3 _ rfl;(with_reducible repeat (first|apply kN_|apply kD_|apply kA_));refine blk_put (cs:=#[.int .i8 ((rd_T36 ((rd_T25 l0 0).f2) x5_2).f0),.int .i8 ((rd_T36 ((rd_T25 l0 0).f2) x5_2).f1),.int .i8 0,.int .i8 0]) ?_ 2 _ rfl;(with_reducible repeat (first|apply kN_|apply kD_|apply kA_));refine blk_put (cs:=#[.int .i8 ((rd_T36 ((rd_T25 l0 0).f2) x5_2).f0),.int .i8 0,.int .i8 0,.int .i8 0]) ?_ 1 _ rfl;(with_reducible repeat (first|apply kN_|apply kD_|apply kA_));refine blk_put (cs:=#[.int .i8 0,.int .i8 0,.int .i8 0,.int .i8 0]) ?_ 0 _ rfl;(with_reducible repeat (first|apply kN_|apply kD_|apply kA_));exact BK133.out⟩
           have n3_ : Aside0 (Below w.heap.size w ((((w19.setCell ⟨gb133,0,none⟩ (.int .i8 ((rd_T36 ((rd_T25 l0 0).f2) x5_2).f0))).setCell ⟨gb133,1,none⟩ (.int .i8 ((rd_T36 ((rd_T25 l0 0).f2) x5_2).f1))).setCell ⟨gb133,2,none⟩ (.int .i8 ((rd_T36 ((rd_T25 l0 0).f2) x5_2).f2))).setCell ⟨gb133,3,none⟩ (.int .i8 ((rd_T36 ((rd_T25 l0 0).f2) x5_2).f3)))):=⟨by repeat (first|(with_reducible first|exact HB.out|apply bA_|apply bN_|apply bD_|refine bS_ ?_ GE118.out|refine bS_ ?_ GE119.out|refine bS_ ?_ GE133.out)|exact HB.out)⟩
           (try clear BK118);(try clear BK119);(try clear BK133);(try clear HB);generalize ((((w19.setCell ⟨gb133,0,none⟩ (.int .i8 ((rd_T36 ((rd_T25 l0 0).f2) x5_2).f0))).setCell ⟨gb133,1,none⟩ (.int .i8 ((rd_T36 ((rd_T25 l0 0).f2) x5_2).f1))).setCell ⟨gb133,2,none⟩ (.int .i8 ((rd_T36 ((rd_T25 l0 0).f2) x5_2).f2))).setCell ⟨gb133,3,none⟩ (.int .i8 ((rd_T36 ((rd_T25 l0 0).f2) x5_2).f3))) = w37 at n0_ n1_ n2_ n3_ ⊢;have BK118:=n0_;have BK119:=n1_;have BK133:=n2_;have HB:=n3_;clear n0_ n1_ n2_ n3_;have n0_:=am_ (kD_ BK118.out);have n1_:=am_ (kD_ BK119.out);have n2_:=am_ (kD_ BK133.out);have n3_:=am_ (bD_ HB.out);clear BK118;clear BK119;clear BK133;clear HB;have BK118:=n0_;have BK119:=n1_;have BK133:=n2_;have HB:=n3_;clear n0_ n1_ n2_ n3_;refine start_ (n:=21) (S:=fun w'=>w'.cell? ⟨gb133,0,none⟩ = some (.int .i8 ((rd_T36 ((rd_T25 l0 0).f2) x5_2).f0)) ∧ w'.cell? ⟨gb133,1,none⟩ = some (.int .i8 ((rd_T36 ((rd_T25 l0 0).f2) x5_2).f1)) ∧ w'.cell? ⟨gb133,2,none⟩ = some (.int .i8 ((rd_T36 ((rd_T25 l0 0).f2) x5_2).f2)) ∧ w'.cell? ⟨gb133,3,none⟩ = some (.int .i8 ((rd_T36 ((rd_T25 l0 0).f2) x5_2).f3))) (ds:=[]) (mB_ 21 0) (by kernel_rfl) rfl rfl ⟨(kC_ BK133.out 0).trans rfl,(kC_ BK133.out 1).trans rfl,(kC_ BK133.out 2).trans rfl,(kC_ BK133.out 3).trans rfl⟩ (fun hHeld=>?_);refine with_tabW spec_l01Lay.tab8 spec_l01Lay.bits8 (fun HT_ HW_=>?_);generalize w37.drew = w38 at BK118 BK119 BK133 HB hHeld ⊢;refine pure_ (i:=0) (N:=some 51) (v:=?_) (a':=?_) (mB_ 21 1) rfl rfl (any_of HT_.out (by kernel_rfl)) (fun _ _ _ h=>h) (Or.inl ⟨by rfl,?_⟩) ?_ ?_;rotate_left
           ·
            intro w'
            go_simp
            with_reducible rfl
           rotate_left
           ·
            simp only [Act.put,z1_,z2_,z3_,i64_w,i32_w]
            rfl
           refine take_ (i:=1) (N:=some 52) (v:=?_) (a':=?_) (mB_ 21 3) rfl rfl (take_ofW HT_.out HW_.out (by kernel_rfl)) (fun _ _ _ h=>h) (Or.inl ⟨by rfl,?_⟩) hHeld ?_ ?_;rotate_left
           ·
            rintro w' ⟨s0,s1,s2,s3⟩
            go_simp
            with_reducible rfl
           rotate_left
           ·
            simp only [Act.put,z1_,z2_,z3_,i64_w,i32_w]
            rfl
           refine one_ (i:=2) (N:=some 53) (mB_ 21 7) rfl rfl (one_of HT_.out (by kernel_rfl)) (by decide) (fun K hK=>?_);refine goes_ Tryd.func31 (by kernel_rfl) rfl #[.pointer (some ad128),.agg #[.int .i8 ((rd_T36 ((rd_T25 l0 0).f2) x5_2).f0),.int .i8 ((rd_T36 ((rd_T25 l0 0).f2) x5_2).f1),.int .i8 ((rd_T36 ((rd_T25 l0 0).f2) x5_2).f2),.int .i8 ((rd_T36 ((rd_T25 l0 0).f2) x5_2).f3)]] (by rfl) rfl rfl (by (try simp only [List.map_toArray,List.map_cons,List.map_nil]);first|done|rfl|(simp only [List.length_drop,List.length_take];rfl)) ?_
           with_reducible refine (spec_l01Lies.calls _ c0 l0 ((rd_T36 ((rd_T25 l0 0).f2) x5_2).f0) ((rd_T36 ((rd_T25 l0 0).f2) x5_2).f1) ((rd_T36 ((rd_T25 l0 0).f2) x5_2).f2) ((rd_T36 ((rd_T25 l0 0).f2) x5_2).f3) false _ ?side1 ?side2 A23.out).mono ?_
           (case side1=>repeat (first|exact (cB_ HR0.out HB.out)|(with_reducible refine Kd.C_alloc ?_ _)|(with_reducible refine Kd.C_drewN ?_ _)|(with_reducible refine Kd.C_drew ?_)))
           (case side2=>exact HC0.out)
           rintro e w39 ⟨rfl,hb⟩;refine ⟨_,rfl,?_⟩;have n0_:=am_ (kB_ (g:=gb118) (o:=.cells (arrC .i64 x119000_2) 54 (0,0)) (by (with_reducible repeat (first|apply kN_|apply kD_|apply kA_));exact BK118.out) hb);have n1_:=am_ (kB_ (g:=gb119) (o:=.cells (arrC .i64 x120000_2) 54 (0,0)) (by (with_reducible repeat (first|apply kN_|apply kD_|apply kA_));exact BK119.out) hb);have n2_:=am_ (kB_ (g:=gb133) (o:=.cells #[.int .i8 ((rd_T36 ((rd_T25 l0 0).f2) x5_2).f0),.int .i8 ((rd_T36 ((rd_T25 l0 0).f2) x5_2).f1),.int .i8 ((rd_T36 ((rd_T25 l0 0).f2) x5_2).f2),.int .i8 ((rd_T36 ((rd_T25 l0 0).f2) x5_2).f3)] 36 (0,0)) (by (with_reducible repeat (first|apply kN_|apply kD_|apply kA_));exact BK133.out) hb);have n3_:=am_ (bT_ (by repeat (first|(with_reducible first|exact HB.out|apply bA_|apply bN_|apply bD_|refine bS_ ?_ GE118.out|refine bS_ ?_ GE119.out|refine bS_ ?_ GE133.out)|exact HB.out)) hb);clear BK118;clear BK119;clear BK133;clear HB;have BK118:=n0_;have BK119:=n1_;have BK133:=n2_;have HB:=n3_;clear n0_ n1_ n2_ n3_;(try clear hb);(try clear hb2);(try clear hk);(try clear hi);refine hK.out _ _ ⟨(kC_ BK133.out 0).trans rfl,(kC_ BK133.out 1).trans rfl,(kC_ BK133.out 2).trans rfl,(kC_ BK133.out 3).trans rfl⟩ (fun hHeld=>?_);clear hK K;refine norm_ (a':=?_) ?_ ?_;rotate_left
           ·
            show Act.put _ (some 53) _ = _
            simp only [Act.put,z1_,z2_,z3_,i64_w,i32_w]
            rfl
           refine pure_ (i:=3) (N:=some 54) (v:=?_) (a':=?_) (mB_ 21 15) rfl rfl (any_of HT_.out (by kernel_rfl)) (fun _ _ _ h=>h) (Or.inl ⟨by rfl,?_⟩) ?_ ?_;rotate_left
           ·
            intro w'
            go_simp
            with_reducible rfl
           rotate_left
           ·
            simp only [Act.put,z1_,z2_,z3_,i64_w,i32_w]
            rfl
           refine pure_ (i:=4) (N:=some 55) (v:=?_) (a':=?_) (mB_ 21 31) rfl rfl (any_of HT_.out (by kernel_rfl)) (fun _ _ _ h=>h) (Or.inl ⟨by rfl,?_⟩) ?_ ?_;rotate_left
           ·
            intro w'
            go_simp
            with_reducible rfl
           rotate_left
           ·
            simp only [Act.put,z1_,z2_,z3_,i64_w,i32_w]
            rfl
           refine pure_ (i:=5) (N:=some 56) (v:=undef) (a':=?_) (mB_ 21 63) rfl rfl (any_of HT_.out (by kernel_rfl)) (fun _ _ _ h=>h) (Or.inr ⟨by rfl,rfl⟩) ?_ ?_;rotate_left
           ·
            simp only [Act.put,z1_,z2_,z3_,i64_w,i32_w]
            rfl
           refine pure_ (i:=6) (N:=some 57) (v:=undef) (a':=?_) (mB_ 21 127) rfl rfl (any_of HT_.out (by kernel_rfl)) (fun _ _ _ h=>h) (Or.inr ⟨by rfl,rfl⟩) ?_ ?_;rotate_left
           ·
            simp only [Act.put,z1_,z2_,z3_,i64_w,i32_w]
            rfl
           refine pure_ (i:=7) (N:=some 58) (v:=undef) (a':=?_) (mB_ 21 255) rfl rfl (any_of HT_.out (by kernel_rfl)) (fun _ _ _ h=>h) (Or.inr ⟨by rfl,rfl⟩) ?_ ?_;rotate_left
           ·
            simp only [Act.put,z1_,z2_,z3_,i64_w,i32_w]
            rfl
           refine pure_ (i:=8) (N:=some 59) (v:=undef) (a':=?_) (mB_ 21 511) rfl rfl (any_of HT_.out (by kernel_rfl)) (fun _ _ _ h=>h) (Or.inr ⟨by rfl,rfl⟩) ?_ ?_;rotate_left
           ·
            simp only [Act.put,z1_,z2_,z3_,i64_w,i32_w]
            rfl
           refine pure_ (i:=9) (N:=some 60) (v:=undef) (a':=?_) (mB_ 21 1023) rfl rfl (any_of HT_.out (by kernel_rfl)) (fun _ _ _ h=>h) (Or.inr ⟨by rfl,rfl⟩) ?_ ?_;rotate_left
           ·
            simp only [Act.put,z1_,z2_,z3_,i64_w,i32_w]
            rfl
           refine pure_ (i:=10) (N:=some 61) (v:=undef) (a':=?_) (mB_ 21 2047) rfl rfl (any_of HT_.out (by kernel_rfl)) (fun _ _ _ h=>h) (Or.inr ⟨by rfl,rfl⟩) ?_ ?_;rotate_left
           ·
            simp only [Act.put,z1_,z2_,z3_,i64_w,i32_w]
            rfl
           refine pure_ (i:=11) (N:=some 62) (v:=undef) (a':=?_) (mB_ 21 4095) rfl rfl (any_of HT_.out (by kernel_rfl)) (fun _ _ _ h=>h) (Or.inr ⟨by rfl,rfl⟩) ?_ ?_;rotate_left
           ·
            simp only [Act.put,z1_,z2_,z3_,i64_w,i32_w]
            rfl
           refine pure_ (i:=12) (N:=some 63) (v:=undef) (a':=?_) (mB_ 21 8191) rfl rfl (any_of HT_.out (by kernel_rfl)) (fun _ _ _ h=>h) (Or.inr ⟨by rfl,rfl⟩) ?_ ?_;rotate_left
           ·
            simp only [Act.put,z1_,z2_,z3_,i64_w,i32_w]
            rfl
           refine pure_ (i:=13) (N:=some 64) (v:=undef) (a':=?_) (mB_ 21 16383) rfl rfl (any_of HT_.out (by kernel_rfl)) (fun _ _ _ h=>h) (Or.inr ⟨by rfl,rfl⟩) ?_ ?_;rotate_left
           ·
            simp only [Act.put,z1_,z2_,z3_,i64_w,i32_w]
            rfl
           refine pure_ (i:=14) (N:=some 65) (v:=undef) (a':=?_) (mB_ 21 32767) rfl rfl (any_of HT_.out (by kernel_rfl)) (fun _ _ _ h=>h) (Or.inr ⟨by rfl,rfl⟩) ?_ ?_;rotate_left
           ·
            simp only [Act.put,z1_,z2_,z3_,i64_w,i32_w]
            rfl
           refine pure_ (i:=15) (N:=some 66) (v:=undef) (a':=?_) (mB_ 21 65535) rfl rfl (any_of HT_.out (by kernel_rfl)) (fun _ _ _ h=>h) (Or.inr ⟨by rfl,rfl⟩) ?_ ?_;rotate_left
           ·
            simp only [Act.put,z1_,z2_,z3_,i64_w,i32_w]
            rfl
           refine pure_ (i:=16) (N:=some 67) (v:=undef) (a':=?_) (mB_ 21 131071) rfl rfl (any_of HT_.out (by kernel_rfl)) (fun _ _ _ h=>h) (Or.inr ⟨by rfl,rfl⟩) ?_ ?_;rotate_left
           ·
            simp only [Act.put,z1_,z2_,z3_,i64_w,i32_w]
            rfl
           refine pure_ (i:=17) (N:=some 68) (v:=undef) (a':=?_) (mB_ 21 262143) rfl rfl (any_of HT_.out (by kernel_rfl)) (fun _ _ _ h=>h) (Or.inr ⟨by rfl,rfl⟩) ?_ ?_;rotate_left
           ·
            simp only [Act.put,z1_,z2_,z3_,i64_w,i32_w]
            rfl
           refine pure_ (i:=18) (N:=some 69) (v:=undef) (a':=?_) (mB_ 21 524287) rfl rfl (any_of HT_.out (by kernel_rfl)) (fun _ _ _ h=>h) (Or.inr ⟨by rfl,rfl⟩) ?_ ?_;rotate_left
           ·
            simp only [Act.put,z1_,z2_,z3_,i64_w,i32_w]
            rfl
           refine pure_ (i:=19) (N:=some 70) (v:=undef) (a':=?_) (mB_ 21 1048575) rfl rfl (any_of HT_.out (by kernel_rfl)) (fun _ _ _ h=>h) (Or.inr ⟨by rfl,rfl⟩) ?_ ?_;rotate_left
           ·
            simp only [Act.put,z1_,z2_,z3_,i64_w,i32_w]
            rfl
           refine pure_ (i:=20) (N:=some 71) (v:=?_) (a':=?_) (mB_ 21 2097151) rfl rfl (any_of HT_.out (by kernel_rfl)) (fun _ _ _ h=>h) (Or.inl ⟨by rfl,?_⟩) ?_ ?_;rotate_left
           ·
            intro w'
            go_simp
            with_reducible rfl
           rotate_left
           ·
            simp only [Act.put,z1_,z2_,z3_,i64_w,i32_w]
            rfl
           refine done_ (done_of HT_.out (by kernel_rfl)) ?_
           try go_wp2
           go_meet
           case rel=>exact ⟨_,(true),(by first|rfl|(simp;done)|(simp [*];done)),H',⟨by have:=HJ1.out;have:=HK2.out;first|omega|exact Nat.le_refl _⟩,⟨by (with_reducible repeat (first|apply kN_|apply kD_|apply kA_));exact BK118.out⟩,⟨by (with_reducible repeat (first|apply kN_|apply kD_|apply kA_));exact BK119.out⟩,⟨by (with_reducible repeat (first|apply kN_|apply kD_|apply kA_));exact BK133.out⟩,⟨by repeat (first|(with_reducible first|exact HB.out|apply bA_|apply bN_|apply bD_|refine bS_ ?_ GE118.out|refine bS_ ?_ GE119.out|refine bS_ ?_ GE133.out)|exact HB.out)⟩⟩
         case rest =>
          clear HC18;(try clear c1);(try clear p1);(try clear q1);(try clear hx1);(try clear c2);(try clear p2);(try clear c3);(try clear c13);(try clear p13);(try clear q13);(try clear hx13);(try clear c24);(try clear c25);(try clear c25b0);(try clear c27);(try clear c28);(try clear c31);(try clear c32);(try clear hx135_0);(try clear hx135_1);(try clear hx135_2);(try clear hx136_0);(try clear hx136_1);(try clear hx136_2);(try clear hx137_0);(try clear hx137_1);(try clear hx137_2);(try clear hx137_3);(try clear p137);(try clear q137);obtain ⟨kq,x71_17,rfl,HA,HJ17,BK118,BK119,BK133,HB⟩:=hcut
          cases kq with
          | zero=>exact absurd HA.out (by simp [spec_l01Lay.j2])
          | succ kj17 =>
           have H:=HA.out;clear HA;simp only [spec_l01Lay.j2] at H
           by_cases c40 : x71_17 = true
           ·
            subst c40;have H1 : (if x120000_2.length = 144 then (if x119000_2.length = 144 then (some (x120000_2,false)) else (none)) else (none)) = some (r1,r2):=by rw [if_pos rfl] at H;exact H
            clear H;have H:=H1;clear H1
            by_cases c41 : x120000_2.length = 144
            ·
             rw [if_pos c41] at H;have c41b0:=eq_true c41;have c41b1 : decide (x120000_2.length = 144) = true:=decide_eq_true c41;clear c41
             by_cases c42 : x119000_2.length = 144
             ·
              rw [if_pos c42] at H;have c42b0:=eq_true c42;have c42b1 : decide (x119000_2.length = 144) = true:=decide_eq_true c42;clear c42;simp only [Option.some.injEq,Prod.mk.injEq] at H;obtain ⟨rfl,rfl⟩:=H
              go_wp2_with (first|((with_reducible refine gate_dst (N:=72) rfl ?_);(try (refine gate_guard (by rfl) ?_;dsimp only));refine arr_load (p:=4) (n:=144) (k:=.i64) (g:=gb119) (l:=x120000_2) ?hg (N:=72) ?hd (t:=54) ?ho ?hp (by (with_reducible repeat (first|apply kN_|apply kD_|apply kA_));exact BK119.out) Tryd.underlying54 (by kernel_rfl) (od_ (by first|(with_reducible assumption)|assumption)) ?_;(case hd=>rfl);(case hg=>rfl);(case ho=>rfl);(case hp=>rfl))|((with_reducible refine gate_store (t:=54) (p:=2) rfl ?_);refine arr_store (p:=2) (v:=?vv_w43) (n:=144) (k:=.i64) (g:=gb118) (l:=x119000_2) (l2:=x120000_2) ?hg ?hn (t:=54) ?ho ?hp ?hv (by (with_reducible repeat (first|apply kN_|apply kD_|apply kA_));exact BK118.out) (by kernel_rfl) (od_ (by first|(with_reducible assumption)|assumption)) (od_ (by first|(with_reducible assumption)|assumption)) ?_;(case ho=>rfl);(case hg=>rfl);(case hn=>rfl);(case hp=>rfl);(case hv=>rfl);intro w43 hg hx;have n0_:=am_ (hx);have n1_:=am_ (blk_grown (g:=gb119) (o:=.cells (arrC .i64 x120000_2) 54 (0,0)) (by (with_reducible repeat (first|apply kN_|apply kD_|apply kA_));exact BK119.out) hg (fun e_=>NB119_118.out (Option.some.inj e_)));have n2_:=am_ (blk_grown (g:=gb133) (o:=.cells #[.int .i8 ((rd_T36 ((rd_T25 l0 0).f2) x5_2).f0),.int .i8 ((rd_T36 ((rd_T25 l0 0).f2) x5_2).f1),.int .i8 ((rd_T36 ((rd_T25 l0 0).f2) x5_2).f2),.int .i8 ((rd_T36 ((rd_T25 l0 0).f2) x5_2).f3)] 36 (0,0)) (by (with_reducible repeat (first|apply kN_|apply kD_|apply kA_));exact BK133.out) hg (fun e_=>NB133_118.out (Option.some.inj e_)));have n3_:=am_ (Below.grown (by repeat (first|(with_reducible first|exact HB.out|apply bA_|apply bN_|apply bD_|refine bS_ ?_ GE118.out|refine bS_ ?_ GE119.out|refine bS_ ?_ GE133.out)|exact HB.out)) hg (bZ_ (by repeat (first|(with_reducible first|exact HB.out|apply bA_|apply bN_|apply bD_|refine bS_ ?_ GE118.out|refine bS_ ?_ GE119.out|refine bS_ ?_ GE133.out)|exact HB.out))) (fun k_ e_=>by cases e_;exact GE118.out));clear BK118;clear BK119;clear BK133;clear HB;have BK118:=n0_;have BK119:=n1_;have BK133:=n2_;have HB:=n3_;clear n0_ n1_ n2_ n3_;clear hg hx))
              refine bodyPost_ret (results_ct rfl _ _ gb118 54 (arrC .i64 x120000_2) (0,0) _ rfl (by (with_reducible repeat (first|apply kN_|apply kD_|apply kA_));exact BK118.out) Tryd.underlying54 rfl (by first|(rw [arrC_size,(od_ (by first|(with_reducible assumption)|assumption) : x120000_2.length = 144)];kernel_rfl)|kernel_rfl)) rfl ?_;exact ⟨by first|rfl|(simp [errW_none,errW_some] <;> rfl)|(simp [*,errW_none,errW_some] <;> rfl),by repeat (first|(with_reducible first|exact HB.out|apply bA_|apply bN_|apply bD_|refine bS_ ?_ GE118.out|refine bS_ ?_ GE119.out|refine bS_ ?_ GE133.out)|exact HB.out)⟩
             ·
              rw [if_neg c42] at H;exact absurd H (by simp)
            ·
             rw [if_neg c41] at H;exact absurd H (by simp)
           ·
            replace c40:=Bool.eq_false_iff.mpr c40;subst c40;have H1 : (spec_l01Lay.l1 kj17 l0 x5_2 ((rd_T36 ((rd_T25 l0 0).f2) x5_2).f1) x119000_2 x120000_2 ((rd_T36 ((rd_T25 l0 0).f2) x5_2).f0) ((rd_T36 ((rd_T25 l0 0).f2) x5_2).f1) ((rd_T36 ((rd_T25 l0 0).f2) x5_2).f2) ((rd_T36 ((rd_T25 l0 0).f2) x5_2).f3)) = some (r1,r2):=by rw [if_neg (show ¬ (false = true) by decide)] at H;exact H
            clear H;have H:=H1;clear H1;have H':=am_ H;clear H;have hnb44:=NB133_118.out;have hnc44:=NB118_133.out;have hnb45:=NB133_119.out;have hnc45:=NB119_133.out;have hcz46_0 : wc.cell? ⟨gb133,0,none⟩ = some (.int .i8 ((rd_T36 ((rd_T25 l0 0).f2) x5_2).f0)):=(kC_ BK133.out 0).trans rfl;have hcz46_1 : wc.cell? ⟨gb133,1,none⟩ = some (.int .i8 ((rd_T36 ((rd_T25 l0 0).f2) x5_2).f1)):=(kC_ BK133.out 1).trans rfl;have hcz46_2 : wc.cell? ⟨gb133,2,none⟩ = some (.int .i8 ((rd_T36 ((rd_T25 l0 0).f2) x5_2).f2)):=(kC_ BK133.out 2).trans rfl;have hcz46_3 : wc.cell? ⟨gb133,3,none⟩ = some (.int .i8 ((rd_T36 ((rd_T25 l0 0).f2) x5_2).f3)):=(kC_ BK133.out 3).trans rfl;have hfz46_0:=kF_ BK133.out 0;have hfz46_1:=kF_ BK133.out 1;have hfz46_2:=kF_ BK133.out 2;have hfz46_3:=kF_ BK133.out 3
            go_wp2
            go_loopg [7] kj17 (fun kq v7 w'=>∃ (x7_4 : Int) (x119000_4 : List Int) (x120000_4 : List Int),v7 = .int .i8 x7_4 ∧ Aside0 (spec_l01Lay.l1 kq l0 x5_2 x7_4 x119000_4 x120000_4 ((rd_T36 ((rd_T25 l0 0).f2) x5_2).f0) ((rd_T36 ((rd_T25 l0 0).f2) x5_2).f1) ((rd_T36 ((rd_T25 l0 0).f2) x5_2).f2) ((rd_T36 ((rd_T25 l0 0).f2) x5_2).f3) = some (r1,r2)) ∧ Aside0 (kq≤kj17) ∧ Aside0 (w'.heap[gb118]? = some (.cells (arrC .i64 x119000_4) 54 (0,0))) ∧ Aside0 (w'.heap[gb119]? = some (.cells (arrC .i64 x120000_4) 54 (0,0))) ∧ Aside0 (w'.heap[gb133]? = some (.cells #[.int .i8 ((rd_T36 ((rd_T25 l0 0).f2) x5_2).f0),.int .i8 ((rd_T36 ((rd_T25 l0 0).f2) x5_2).f1),.int .i8 ((rd_T36 ((rd_T25 l0 0).f2) x5_2).f2),.int .i8 ((rd_T36 ((rd_T25 l0 0).f2) x5_2).f3)] 36 (0,0))) ∧ Aside0 (Below w.heap.size w w'))
            case atStart=>exact ⟨(((rd_T36 ((rd_T25 l0 0).f2) x5_2).f1)),(x119000_2),(x120000_2),(by first|rfl|(simp;done)|(simp [*];done)),H',⟨Nat.le_refl _⟩,⟨by (with_reducible repeat (first|apply kN_|apply kD_|apply kA_));exact BK118.out⟩,⟨by (with_reducible repeat (first|apply kN_|apply kD_|apply kA_));exact BK119.out⟩,⟨by (with_reducible repeat (first|apply kN_|apply kD_|apply kA_));exact BK133.out⟩,⟨by repeat (first|(with_reducible first|exact HB.out|apply bA_|apply bN_|apply bD_|refine bS_ ?_ GE118.out|refine bS_ ?_ GE119.out|refine bS_ ?_ GE133.out)|exact HB.out)⟩⟩
            case round =>
             clear H';(try clear c1);(try clear p1);(try clear q1);(try clear hx1);(try clear c2);(try clear p2);(try clear c3);(try clear c4);(try clear c13);(try clear p13);(try clear q13);(try clear hx13);(try clear c24);(try clear c25);(try clear c25b0);(try clear c27);(try clear c28);(try clear c31);(try clear c32);(try clear c40);(try clear c41);(try clear c41b0);(try clear c41b1);(try clear c42);(try clear c42b0);(try clear c42b1);(try clear c44);(try clear c45);(try clear hcz46_0);(try clear hcz46_1);(try clear hcz46_2);(try clear hcz46_3);(try clear hfz46_0);(try clear hfz46_1);(try clear hfz46_2);(try clear hfz46_3);(try clear hx135_0);(try clear hx135_1);(try clear hx135_2);(try clear hx136_0);(try clear hx136_1);(try clear hx136_2);(try clear hx137_0);(try clear hx137_1);(try clear hx137_2);(try clear hx137_3);(try clear p1);(try clear p13);(try clear p137);(try clear p2);(try clear q1);(try clear q13);(try clear q137);obtain ⟨x7_4,x119000_4,x120000_4,rfl,HA,HK4,BK118,BK119,BK133,HB⟩:=hrel
             cases gk with
             | zero=>exact absurd HA.out (by simp [spec_l01Lay.l1])
             | succ k4 =>
              have H:=HA.out;clear HA;simp only [spec_l01Lay.l1] at H
              by_cases c47 : x7_4 < (IntKind.i8.wrap (((rd_T36 ((rd_T25 l0 0).f2) x5_2).f1) + ((rd_T36 ((rd_T25 l0 0).f2) x5_2).f3)))
              ·
               rw [if_pos c47] at H;have c47b0 : decide (x7_4 < (IntKind.i8.wrap (((rd_T36 ((rd_T25 l0 0).f2) x5_2).f1) + ((rd_T36 ((rd_T25 l0 0).f2) x5_2).f3)))) = true:=decide_eq_true c47;clear c47;have H':=am_ H;clear H;have hnb48:=NB133_118.out;have hnc48:=NB118_133.out;have hnb49:=NB133_119.out;have hnc49:=NB119_133.out;have hcz50_0 : wr.cell? ⟨gb133,0,none⟩ = some (.int .i8 ((rd_T36 ((rd_T25 l0 0).f2) x5_2).f0)):=(kC_ BK133.out 0).trans rfl;have hcz50_1 : wr.cell? ⟨gb133,1,none⟩ = some (.int .i8 ((rd_T36 ((rd_T25 l0 0).f2) x5_2).f1)):=(kC_ BK133.out 1).trans rfl;have hcz50_2 : wr.cell? ⟨gb133,2,none⟩ = some (.int .i8 ((rd_T36 ((rd_T25 l0 0).f2) x5_2).f2)):=(kC_ BK133.out 2).trans rfl;have hcz50_3 : wr.cell? ⟨gb133,3,none⟩ = some (.int .i8 ((rd_T36 ((rd_T25 l0 0).f2) x5_2).f3)):=(kC_ BK133.out 3).trans rfl;have hfz50_0:=kF_ BK133.out 0;have hfz50_1:=kF_ BK133.out 1;have hfz50_2:=kF_ BK133.out 2;have hfz50_3:=kF_ BK133.out 3
               go_wp2
               go_loopg [8] k4 (fun kq v8 w'=>∃ (x8_5 : Int) (x119000_5 : List Int) (x120000_5 : List Int),v8 = .int .i8 x8_5 ∧ Aside0 (spec_l01Lay.l2 kq l0 x5_2 x7_4 x8_5 x119000_5 x120000_5 ((rd_T36 ((rd_T25 l0 0).f2) x5_2).f0) ((rd_T36 ((rd_T25 l0 0).f2) x5_2).f1) ((rd_T36 ((rd_T25 l0 0).f2) x5_2).f2) ((rd_T36 ((rd_T25 l0 0).f2) x5_2).f3) = some (r1,r2)) ∧ Aside0 (kq≤k4) ∧ Aside0 (w'.heap[gb118]? = some (.cells (arrC .i64 x119000_5) 54 (0,0))) ∧ Aside0 (w'.heap[gb119]? = some (.cells (arrC .i64 x120000_5) 54 (0,0))) ∧ Aside0 (w'.heap[gb133]? = some (.cells #[.int .i8 ((rd_T36 ((rd_T25 l0 0).f2) x5_2).f0),.int .i8 ((rd_T36 ((rd_T25 l0 0).f2) x5_2).f1),.int .i8 ((rd_T36 ((rd_T25 l0 0).f2) x5_2).f2),.int .i8 ((rd_T36 ((rd_T25 l0 0).f2) x5_2).f3)] 36 (0,0))) ∧ Aside0 (Below w.heap.size w w'))
               case atStart=>exact ⟨(((rd_T36 ((rd_T25 l0 0).f2) x5_2).f0)),(x119000_4),(x120000_4),(by first|rfl|(simp;done)|(simp [*];done)),H',⟨Nat.le_refl _⟩,⟨by (with_reducible repeat (first|apply kN_|apply kD_|apply kA_));exact BK118.out⟩,⟨by (with_reducible repeat (first|apply kN_|apply kD_|apply kA_));exact BK119.out⟩,⟨by (with_reducible repeat (first|apply kN_|apply kD_|apply kA_));exact BK133.out⟩,⟨by repeat (first|(with_reducible first|exact HB.out|apply bA_|apply bN_|apply bD_|refine bS_ ?_ GE118.out|refine bS_ ?_ GE119.out|refine bS_ ?_ GE133.out)|exact HB.out)⟩⟩
               case round =>
                clear H';(try clear c1);(try clear p1);(try clear q1);(try clear hx1);(try clear c2);(try clear p2);(try clear c3);(try clear c4);(try clear c13);(try clear p13);(try clear q13);(try clear hx13);(try clear c24);(try clear c25);(try clear c25b0);(try clear c27);(try clear c28);(try clear c31);(try clear c32);(try clear c40);(try clear c41);(try clear c41b0);(try clear c41b1);(try clear c42);(try clear c42b0);(try clear c42b1);(try clear c44);(try clear c45);(try clear c47);(try clear c47b0);(try clear c48);(try clear c49);(try clear hcz46_0);(try clear hcz46_1);(try clear hcz46_2);(try clear hcz46_3);(try clear hcz50_0);(try clear hcz50_1);(try clear hcz50_2);(try clear hcz50_3);(try clear hfz46_0);(try clear hfz46_1);(try clear hfz46_2);(try clear hfz46_3);(try clear hfz50_0);(try clear hfz50_1);(try clear hfz50_2);(try clear hfz50_3);(try clear hx135_0);(try clear hx135_1);(try clear hx135_2);(try clear hx136_0);(try clear hx136_1);(try clear hx136_2);(try clear hx137_0);(try clear hx137_1);(try clear hx137_2);(try clear hx137_3);(try clear p1);(try clear p13);(try clear p137);(try clear p2);(try clear q1);(try clear q13);(try clear q137);obtain ⟨x8_5,x119000_5,x120000_5,rfl,HA,HK5,BK118,BK119,BK133,HB⟩:=hrel
                cases gk with
                | zero=>exact absurd HA.out (by simp [spec_l01Lay.l2])
                | succ k5 =>
                 have H:=HA.out;clear HA;simp only [spec_l01Lay.l2] at H
                 by_cases c51 : x8_5 < (IntKind.i8.wrap (((rd_T36 ((rd_T25 l0 0).f2) x5_2).f0) + ((rd_T36 ((rd_T25 l0 0).f2) x5_2).f2)))
                 ·
                  rw [if_pos c51] at H;have c51b0 : decide (x8_5 < (IntKind.i8.wrap (((rd_T36 ((rd_T25 l0 0).f2) x5_2).f0) + ((rd_T36 ((rd_T25 l0 0).f2) x5_2).f2)))) = true:=decide_eq_true c51;clear c51
                  by_cases c52 : 0≤x7_4
                  ·
                   rw [if_pos c52] at H;have c52b0 : decide (0≤x7_4) = true:=decide_eq_true c52;clear c52
                   by_cases c53 : x7_4 < 12
                   ·
                    rw [if_pos c53] at H;have c53b0 : decide (x7_4 < 12) = true:=decide_eq_true c53;clear c53
                    by_cases c55 : 0≤x8_5
                    ·
                     rw [if_pos c55] at H;have c55b0 : decide (0≤x8_5) = true:=decide_eq_true c55;clear c55
                     by_cases c56 : x8_5 < 12
                     ·
                      rw [if_pos c56] at H;have c56b0 : decide (x8_5 < 12) = true:=decide_eq_true c56;clear c56
                      by_cases c58 : x7_4 * 12 + x8_5 < (x120000_5.length : Int)
                      ·
                       rw [if_pos c58] at H;have c58b0:=eq_true c58;have c58b1 : decide (x7_4 * 12 + x8_5 < (x120000_5.length : Int)) = true:=decide_eq_true c58
                       by_cases c59 : (rd x120000_5 (x7_4 * 12 + x8_5)) = 0
                       ·
                        rw [if_pos c59] at H;have c59b0 : ((rd x120000_5 (x7_4 * 12 + x8_5)) == 0) = true:=beq_iff_eq.mpr c59;have c59b1 : ((rd x120000_5 (x7_4 * 12 + x8_5)) != 0) = false:=bne_eq_false_iff_eq.mpr c59;clear c59;obtain ⟨y139,hy139⟩ : ∃ y_ : List Int,y_ = (x120000_5.set (x7_4 * 12 + x8_5 : Int).toNat (wrap64 (x5_2 + 1))):=⟨_,rfl⟩
                        replace H : (spec_l01Lay.l2 k5 l0 x5_2 x7_4 (IntKind.i8.wrap (x8_5 + 1)) x119000_5 y139 ((rd_T36 ((rd_T25 l0 0).f2) x5_2).f0) ((rd_T36 ((rd_T25 l0 0).f2) x5_2).f1) ((rd_T36 ((rd_T25 l0 0).f2) x5_2).f2) ((rd_T36 ((rd_T25 l0 0).f2) x5_2).f3)) = some (r1,r2):=by first|(rw [hy139];with_reducible exact H)|(have H2_:=(Option.bind_some _ _).symm.trans H;rw [hy139];with_reducible exact H2_)|(have H2_:=(Option.bind_some _ _).symm.trans H;with_reducible exact H2_)|with_reducible exact H|(rw [hy139];exact H)|exact H
                        have Ny139:=am_ hy139;clear hy139;have H':=am_ H;clear H;have hnb62:=NB133_118.out;have hnc62:=NB118_133.out;have hnb63:=NB133_119.out;have hnc63:=NB119_133.out;have hcz64_0 : wr.cell? ⟨gb133,0,none⟩ = some (.int .i8 ((rd_T36 ((rd_T25 l0 0).f2) x5_2).f0)):=(kC_ BK133.out 0).trans rfl;have hcz64_1 : wr.cell? ⟨gb133,1,none⟩ = some (.int .i8 ((rd_T36 ((rd_T25 l0 0).f2) x5_2).f1)):=(kC_ BK133.out 1).trans rfl;have hcz64_2 : wr.cell? ⟨gb133,2,none⟩ = some (.int .i8 ((rd_T36 ((rd_T25 l0 0).f2) x5_2).f2)):=(kC_ BK133.out 2).trans rfl;have hcz64_3 : wr.cell? ⟨gb133,3,none⟩ = some (.int .i8 ((rd_T36 ((rd_T25 l0 0).f2) x5_2).f3)):=(kC_ BK133.out 3).trans rfl;have hfz64_0:=kF_ BK133.out 0;have hfz64_1:=kF_ BK133.out 1;have hfz64_2:=kF_ BK133.out 2;have hfz64_3:=kF_ BK133.out 3;have p54 : 0≤(x7_4 : Int):=od_ (by first|(with_reducible assumption)|assumption);have q54 : (x7_4 : Int) < (12 : Int):=od_ (by first|(with_reducible assumption)|assumption);replace p54:=eq_true p54;replace q54:=eq_true q54;have p57 : 0≤(x8_5 : Int):=od_ (by first|(with_reducible assumption)|assumption);have q57 : (x8_5 : Int) < (12 : Int):=od_ (by first|(with_reducible assumption)|assumption);replace p57:=eq_true p57;replace q57:=eq_true q57;have haz65 : wr.cell? ⟨gb119,x7_4.toNat * 12 + x8_5.toNat,none⟩ = some (.int .i64 (rd x120000_5 (x7_4 * 12 + x8_5))):=arr_cell (by (with_reducible repeat (first|apply kN_|apply kD_|apply kA_));exact BK119.out) (x7_4 * 12 + x8_5) _ (by have h0_ : (0 : Int)≤x7_4:=od_ (by first|(with_reducible assumption)|assumption);have h1_ : (0 : Int)≤x8_5:=od_ (by first|(with_reducible assumption)|assumption);omega) (od_ (by first|(with_reducible assumption)|assumption));have p60 : 0≤(x7_4 : Int):=od_ (by first|(with_reducible assumption)|assumption);have q60 : (x7_4 : Int) < (12 : Int):=od_ (by first|(with_reducible assumption)|assumption);replace p60:=eq_true p60;replace q60:=eq_true q60;have p61 : 0≤(x8_5 : Int):=od_ (by first|(with_reducible assumption)|assumption);have q61 : (x8_5 : Int) < (12 : Int):=od_ (by first|(with_reducible assumption)|assumption);replace p61:=eq_true p61;replace q61:=eq_true q61
                        go_wp2_with (first|((with_reducible refine gate_store (t:=2) (p:=107) rfl ?_);refine arr_put (te:=2) (p:=107) (v:=?vv_w66) (j:=?jj_w66) (k:=.i64) ?hg ?hn ?ho (i:=(x7_4 * 12 + x8_5)) (l:=x120000_5) (g:=gb119) (x:=(wrap64 (x5_2 + 1))) ?hp (by (with_reducible repeat (first|apply kN_|apply kD_|apply kA_));exact BK119.out) ?hj (od_ (by first|(with_reducible assumption)|assumption)) ?hr ?_;(case ho=>rfl);(case hg=>rfl);(case hn=>rfl);(case hp=>rfl);(case hj=>have h0_ : (0 : Int)≤x7_4:=od_ (by first|(with_reducible assumption)|assumption);have h1_ : (0 : Int)≤x8_5:=od_ (by first|(with_reducible assumption)|assumption);omega);(case hr=>intro hcell_ hfroz_;first|(go_simp;done)|(go_simp;rfl));intro w66 hg hx;rw [← Ny139.out] at hx;have n0_:=am_ (blk_grown (g:=gb118) (o:=.cells (arrC .i64 x119000_5) 54 (0,0)) (by (with_reducible repeat (first|apply kN_|apply kD_|apply kA_));exact BK118.out) hg (fun e_=>NB118_119.out (Option.some.inj e_)));have n1_:=am_ (hx);have n2_:=am_ (blk_grown (g:=gb133) (o:=.cells #[.int .i8 ((rd_T36 ((rd_T25 l0 0).f2) x5_2).f0),.int .i8 ((rd_T36 ((rd_T25 l0 0).f2) x5_2).f1),.int .i8 ((rd_T36 ((rd_T25 l0 0).f2) x5_2).f2),.int .i8 ((rd_T36 ((rd_T25 l0 0).f2) x5_2).f3)] 36 (0,0)) (by (with_reducible repeat (first|apply kN_|apply kD_|apply kA_));exact BK133.out) hg (fun e_=>NB133_119.out (Option.some.inj e_)));have n3_:=am_ (Below.grown (by repeat (first|(with_reducible first|exact HB.out|apply bA_|apply bN_|apply bD_|refine bS_ ?_ GE118.out|refine bS_ ?_ GE119.out|refine bS_ ?_ GE133.out)|exact HB.out)) hg (bZ_ (by repeat (first|(with_reducible first|exact HB.out|apply bA_|apply bN_|apply bD_|refine bS_ ?_ GE118.out|refine bS_ ?_ GE119.out|refine bS_ ?_ GE133.out)|exact HB.out))) (fun k_ e_=>by cases e_;exact GE119.out));clear BK118;clear BK119;clear BK133;clear HB;have BK118:=n0_;have BK119:=n1_;have BK133:=n2_;have HB:=n3_;clear n0_ n1_ n2_ n3_;clear hg hx))
                        go_roundg k5
                        case measure=>have:=HJ1.out;have:=HK2.out;have:=HJ17.out;have:=HK4.out;have:=HK5.out;omega
                        case rel=>exact ⟨(IntKind.i8.wrap (x8_5 + 1)),(x119000_5),(y139),(by first|rfl|(simp;done)|(simp [*];done)),H',⟨by have:=HJ1.out;have:=HK2.out;have:=HJ17.out;have:=HK4.out;have:=HK5.out;omega⟩,⟨by (with_reducible repeat (first|apply kN_|apply kD_|apply kA_));exact BK118.out⟩,⟨by (with_reducible repeat (first|apply kN_|apply kD_|apply kA_));exact BK119.out⟩,⟨by (with_reducible repeat (first|apply kN_|apply kD_|apply kA_));exact BK133.out⟩,⟨by repeat (first|(with_reducible first|exact HB.out|apply bA_|apply bN_|apply bD_|refine bS_ ?_ GE118.out|refine bS_ ?_ GE119.out|refine bS_ ?_ GE133.out)|exact HB.out)⟩⟩
                       ·
                        rw [if_neg c59] at H;have c59b0 : ((rd x120000_5 (x7_4 * 12 + x8_5)) == 0) = false:=beq_eq_false_iff_ne.mpr c59;have c59b1 : ((rd x120000_5 (x7_4 * 12 + x8_5)) != 0) = true:=bne_iff_ne.mpr c59
                        by_cases c67 : x120000_5.length = 144
                        ·
                         rw [if_pos c67] at H;have c67b0:=eq_true c67;have c67b1 : decide (x120000_5.length = 144) = true:=decide_eq_true c67;clear c67
                         by_cases c68 : x119000_5.length = 144
                         ·
                          rw [if_pos c68] at H;have c68b0:=eq_true c68;have c68b1 : decide (x119000_5.length = 144) = true:=decide_eq_true c68;clear c68;simp only [Option.some.injEq,Prod.mk.injEq] at H;obtain ⟨rfl,rfl⟩:=H;have hnb69:=NB133_118.out;have hnc69:=NB118_133.out;have hnb70:=NB133_119.out;have hnc70:=NB119_133.out;have hcz71_0 : wr.cell? ⟨gb133,0,none⟩ = some (.int .i8 ((rd_T36 ((rd_T25 l0 0).f2) x5_2).f0)):=(kC_ BK133.out 0).trans rfl;have hcz71_1 : wr.cell? ⟨gb133,1,none⟩ = some (.int .i8 ((rd_T36 ((rd_T25 l0 0).f2) x5_2).f1)):=(kC_ BK133.out 1).trans rfl;have hcz71_2 : wr.cell? ⟨gb133,2,none⟩ = some (.int .i8 ((rd_T36 ((rd_T25 l0 0).f2) x5_2).f2)):=(kC_ BK133.out 2).trans rfl;have hcz71_3 : wr.cell? ⟨gb133,3,none⟩ = some (.int .i8 ((rd_T36 ((rd_T25 l0 0).f2) x5_2).f3)):=(kC_ BK133.out 3).trans rfl;have hfz71_0:=kF_ BK133.out 0;have hfz71_1:=kF_ BK133.out 1;have hfz71_2:=kF_ BK133.out 2;have hfz71_3:=kF_ BK133.out 3;have p54 : 0≤(x7_4 : Int):=od_ (by first|(with_reducible assumption)|assumption);have q54 : (x7_4 : Int) < (12 : Int):=od_ (by first|(with_reducible assumption)|assumption);replace p54:=eq_true p54;replace q54:=eq_true q54;have p57 : 0≤(x8_5 : Int):=od_ (by first|(with_reducible assumption)|assumption);have q57 : (x8_5 : Int) < (12 : Int):=od_ (by first|(with_reducible assumption)|assumption);replace p57:=eq_true p57;replace q57:=eq_true q57;have haz72 : wr.cell? ⟨gb119,x7_4.toNat * 12 + x8_5.toNat,none⟩ = some (.int .i64 (rd x120000_5 (x7_4 * 12 + x8_5))):=arr_cell (by (with_reducible repeat (first|apply kN_|apply kD_|apply kA_));exact BK119.out) (x7_4 * 12 + x8_5) _ (by have h0_ : (0 : Int)≤x7_4:=od_ (by first|(with_reducible assumption)|assumption);have h1_ : (0 : Int)≤x8_5:=od_ (by first|(with_reducible assumption)|assumption);omega) (od_ (by first|(with_reducible assumption)|assumption))
                          go_wp2_with (first|((with_reducible refine gate_dst (N:=101) rfl ?_);(try (refine gate_guard (by rfl) ?_;dsimp only));refine arr_load (p:=4) (n:=144) (k:=.i64) (g:=gb119) (l:=x120000_5) ?hg (N:=101) ?hd (t:=54) ?ho ?hp (by (with_reducible repeat (first|apply kN_|apply kD_|apply kA_));exact BK119.out) Tryd.underlying54 (by kernel_rfl) (od_ (by first|(with_reducible assumption)|assumption)) ?_;(case hd=>rfl);(case hg=>rfl);(case ho=>rfl);(case hp=>rfl))|((with_reducible refine gate_store (t:=54) (p:=2) rfl ?_);refine arr_store (p:=2) (v:=?vv_w73) (n:=144) (k:=.i64) (g:=gb118) (l:=x119000_5) (l2:=x120000_5) ?hg ?hn (t:=54) ?ho ?hp ?hv (by (with_reducible repeat (first|apply kN_|apply kD_|apply kA_));exact BK118.out) (by kernel_rfl) (od_ (by first|(with_reducible assumption)|assumption)) (od_ (by first|(with_reducible assumption)|assumption)) ?_;(case ho=>rfl);(case hg=>rfl);(case hn=>rfl);(case hp=>rfl);(case hv=>rfl);intro w73 hg hx;have n0_:=am_ (hx);have n1_:=am_ (blk_grown (g:=gb119) (o:=.cells (arrC .i64 x120000_5) 54 (0,0)) (by (with_reducible repeat (first|apply kN_|apply kD_|apply kA_));exact BK119.out) hg (fun e_=>NB119_118.out (Option.some.inj e_)));have n2_:=am_ (blk_grown (g:=gb133) (o:=.cells #[.int .i8 ((rd_T36 ((rd_T25 l0 0).f2) x5_2).f0),.int .i8 ((rd_T36 ((rd_T25 l0 0).f2) x5_2).f1),.int .i8 ((rd_T36 ((rd_T25 l0 0).f2) x5_2).f2),.int .i8 ((rd_T36 ((rd_T25 l0 0).f2) x5_2).f3)] 36 (0,0)) (by (with_reducible repeat (first|apply kN_|apply kD_|apply kA_));exact BK133.out) hg (fun e_=>NB133_118.out (Option.some.inj e_)));have n3_:=am_ (Below.grown (by repeat (first|(with_reducible first|exact HB.out|apply bA_|apply bN_|apply bD_|refine bS_ ?_ GE118.out|refine bS_ ?_ GE119.out|refine bS_ ?_ GE133.out)|exact HB.out)) hg (bZ_ (by repeat (first|(with_reducible first|exact HB.out|apply bA_|apply bN_|apply bD_|refine bS_ ?_ GE118.out|refine bS_ ?_ GE119.out|refine bS_ ?_ GE133.out)|exact HB.out))) (fun k_ e_=>by cases e_;exact GE118.out));clear BK118;clear BK119;clear BK133;clear HB;have BK118:=n0_;have BK119:=n1_;have BK133:=n2_;have HB:=n3_;clear n0_ n1_ n2_ n3_;clear hg hx))
                          refine bodyPost_ret (results_ct rfl _ _ gb118 54 (arrC .i64 x120000_5) (0,0) _ rfl (by (with_reducible repeat (first|apply kN_|apply kD_|apply kA_));exact BK118.out) Tryd.underlying54 rfl (by first|(rw [arrC_size,(od_ (by first|(with_reducible assumption)|assumption) : x120000_5.length = 144)];kernel_rfl)|kernel_rfl)) rfl ?_;exact ⟨by first|rfl|(simp [errW_none,errW_some] <;> rfl)|(simp [*,errW_none,errW_some] <;> rfl),by repeat (first|(with_reducible first|exact HB.out|apply bA_|apply bN_|apply bD_|refine bS_ ?_ GE118.out|refine bS_ ?_ GE119.out|refine bS_ ?_ GE133.out)|exact HB.out)⟩
                         ·
                          rw [if_neg c68] at H;exact absurd H (by simp)
                        ·
                         rw [if_neg c67] at H;exact absurd H (by simp)
                      ·
                       rw [if_neg c58] at H;exact absurd H (by simp)
                     ·
                      rw [if_neg c56] at H;exact absurd H (by simp)
                    ·
                     rw [if_neg c55] at H;exact absurd H (by simp)
                   ·
                    rw [if_neg c53] at H;exact absurd H (by simp)
                  ·
                   rw [if_neg c52] at H;exact absurd H (by simp)
                 ·
                  rw [if_neg c51] at H;have c51b0 : decide (x8_5 < (IntKind.i8.wrap (((rd_T36 ((rd_T25 l0 0).f2) x5_2).f0) + ((rd_T36 ((rd_T25 l0 0).f2) x5_2).f2)))) = false:=decide_eq_false c51;clear c51;have H':=am_ H;clear H;have hnb74:=NB133_118.out;have hnc74:=NB118_133.out;have hnb75:=NB133_119.out;have hnc75:=NB119_133.out;have hcz76_0 : wr.cell? ⟨gb133,0,none⟩ = some (.int .i8 ((rd_T36 ((rd_T25 l0 0).f2) x5_2).f0)):=(kC_ BK133.out 0).trans rfl;have hcz76_1 : wr.cell? ⟨gb133,1,none⟩ = some (.int .i8 ((rd_T36 ((rd_T25 l0 0).f2) x5_2).f1)):=(kC_ BK133.out 1).trans rfl;have hcz76_2 : wr.cell? ⟨gb133,2,none⟩ = some (.int .i8 ((rd_T36 ((rd_T25 l0 0).f2) x5_2).f2)):=(kC_ BK133.out 2).trans rfl;have hcz76_3 : wr.cell? ⟨gb133,3,none⟩ = some (.int .i8 ((rd_T36 ((rd_T25 l0 0).f2) x5_2).f3)):=(kC_ BK133.out 3).trans rfl;have hfz76_0:=kF_ BK133.out 0;have hfz76_1:=kF_ BK133.out 1;have hfz76_2:=kF_ BK133.out 2;have hfz76_3:=kF_ BK133.out 3
                  go_wp2
                  go_roundg k5
                  case measure=>have:=HJ1.out;have:=HK2.out;have:=HJ17.out;have:=HK4.out;have:=HK5.out;omega
                  case rel=>exact ⟨(IntKind.i8.wrap (x7_4 + 1)),(x119000_5),(x120000_5),(by first|rfl|(simp;done)|(simp [*];done)),H',⟨by have:=HJ1.out;have:=HK2.out;have:=HJ17.out;have:=HK4.out;have:=HK5.out;omega⟩,⟨by (with_reducible repeat (first|apply kN_|apply kD_|apply kA_));exact BK118.out⟩,⟨by (with_reducible repeat (first|apply kN_|apply kD_|apply kA_));exact BK119.out⟩,⟨by (with_reducible repeat (first|apply kN_|apply kD_|apply kA_));exact BK133.out⟩,⟨by repeat (first|(with_reducible first|exact HB.out|apply bA_|apply bN_|apply bD_|refine bS_ ?_ GE118.out|refine bS_ ?_ GE119.out|refine bS_ ?_ GE133.out)|exact HB.out)⟩⟩
              ·
               rw [if_neg c47] at H;have c47b0 : decide (x7_4 < (IntKind.i8.wrap (((rd_T36 ((rd_T25 l0 0).f2) x5_2).f1) + ((rd_T36 ((rd_T25 l0 0).f2) x5_2).f3)))) = false:=decide_eq_false c47;clear c47;have H':=am_ H;clear H;have hnb77:=NB133_118.out;have hnc77:=NB118_133.out;have hnb78:=NB133_119.out;have hnc78:=NB119_133.out;have hcz79_0 : wr.cell? ⟨gb133,0,none⟩ = some (.int .i8 ((rd_T36 ((rd_T25 l0 0).f2) x5_2).f0)):=(kC_ BK133.out 0).trans rfl;have hcz79_1 : wr.cell? ⟨gb133,1,none⟩ = some (.int .i8 ((rd_T36 ((rd_T25 l0 0).f2) x5_2).f1)):=(kC_ BK133.out 1).trans rfl;have hcz79_2 : wr.cell? ⟨gb133,2,none⟩ = some (.int .i8 ((rd_T36 ((rd_T25 l0 0).f2) x5_2).f2)):=(kC_ BK133.out 2).trans rfl;have hcz79_3 : wr.cell? ⟨gb133,3,none⟩ = some (.int .i8 ((rd_T36 ((rd_T25 l0 0).f2) x5_2).f3)):=(kC_ BK133.out 3).trans rfl;have hfz79_0:=kF_ BK133.out 0;have hfz79_1:=kF_ BK133.out 1;have hfz79_2:=kF_ BK133.out 2;have hfz79_3:=kF_ BK133.out 3
               go_wp2
               go_roundg k4
               case measure=>have:=HJ1.out;have:=HK2.out;have:=HJ17.out;have:=HK4.out;omega
               case rel=>exact ⟨(wrap64 (x5_2 + 1)),(x119000_4),(x120000_4),(by first|rfl|(simp;done)|(simp [*];done)),H',⟨by have:=HJ1.out;have:=HK2.out;have:=HJ17.out;have:=HK4.out;omega⟩,⟨by (with_reducible repeat (first|apply kN_|apply kD_|apply kA_));exact BK118.out⟩,⟨by (with_reducible repeat (first|apply kN_|apply kD_|apply kA_));exact BK119.out⟩,⟨by repeat (first|(with_reducible first|exact HB.out|apply bA_|apply bN_|apply bD_|refine bS_ ?_ GE118.out|refine bS_ ?_ GE119.out|refine bS_ ?_ GE133.out)|exact HB.out)⟩⟩
        ·
         rw [if_neg c17] at H;exact absurd H (by simp)
       ·
        rw [if_neg c16] at H;have c16b0 : decide (x5_2 < (((rd_T25 l0 0).f2).length : Int)) = false:=decide_eq_false c16;clear c16
        by_cases c80 : x120000_2.length = 144
        ·
         rw [if_pos c80] at H;have c80b0:=eq_true c80;have c80b1 : decide (x120000_2.length = 144) = true:=decide_eq_true c80;clear c80
         by_cases c81 : x119000_2.length = 144
         ·
          rw [if_pos c81] at H;have c81b0:=eq_true c81;have c81b1 : decide (x119000_2.length = 144) = true:=decide_eq_true c81;clear c81;simp only [Option.some.injEq,Prod.mk.injEq] at H;obtain ⟨rfl,rfl⟩:=H;have p128 : 0≤(0 : Int):=(by omega)
          have q128 : 0 < (l0.length : Int):=od_ (by first|(with_reducible assumption)|assumption);obtain ⟨ad128,A128_2,c128_2,e128,hx128_0,hx128_1,hx128_2,hl128_2,hi128_2⟩:=at_T25 HR0.out 0 p128 q128
          cases e128
          have qi128 : (0 < l0.length) = True:=eq_true (by omega);(try rw [show ((0 : Int)).toNat = 0 from rfl] at hx128_0);(try rw [show 0 * 3 = 0 from rfl] at hx128_0);(try rw [Addr.add_zero'] at hx128_0);(try rw [show ((0 : Int)).toNat = 0 from rfl] at hx128_1);(try rw [show 0 * 3 = 0 from rfl] at hx128_1);(try rw [Addr.add_zero'] at hx128_1);(try rw [show ((0 : Int)).toNat = 0 from rfl] at hx128_2);(try rw [show 0 * 3 = 0 from rfl] at hx128_2);(try rw [Addr.add_zero'] at hx128_2);replace hx128_0:=(HB.out.cell (bl_ w _ hx128_0)).trans hx128_0;replace hx128_1:=(HB.out.cell (bl_ w _ hx128_1)).trans hx128_1;replace hx128_2:=(HB.out.cell (bl_ w _ hx128_2)).trans hx128_2;have HR128_2:=am_ hi128_2;have HC128_2:=am_ hl128_2;clear hi128_2 hl128_2;replace p128:=eq_true p128;replace q128:=eq_true q128;have p129 : 0≤(0 : Int):=(by omega)
          have q129 : 0 < (l0.length : Int):=od_ (by first|(with_reducible assumption)|assumption);obtain ⟨ad129,A129_2,c129_2,e129,hx129_0,hx129_1,hx129_2,hl129_2,hi129_2⟩:=at_T25 HR0.out 0 p129 q129;obtain rfl : ad128 = ad129:=(by injection e129)
          have qi129 : (0 < l0.length) = True:=eq_true (by omega);(try rw [show ((0 : Int)).toNat = 0 from rfl] at hx129_0);(try rw [show 0 * 3 = 0 from rfl] at hx129_0);(try rw [Addr.add_zero'] at hx129_0);(try rw [show ((0 : Int)).toNat = 0 from rfl] at hx129_1);(try rw [show 0 * 3 = 0 from rfl] at hx129_1);(try rw [Addr.add_zero'] at hx129_1);(try rw [show ((0 : Int)).toNat = 0 from rfl] at hx129_2);(try rw [show 0 * 3 = 0 from rfl] at hx129_2);(try rw [Addr.add_zero'] at hx129_2);replace hx129_0:=(HB.out.cell (bl_ w _ hx129_0)).trans hx129_0;replace hx129_1:=(HB.out.cell (bl_ w _ hx129_1)).trans hx129_1;replace hx129_2:=(HB.out.cell (bl_ w _ hx129_2)).trans hx129_2;have HR129_2:=am_ hi129_2;have HC129_2:=am_ hl129_2;clear hi129_2 hl129_2;replace p129:=eq_true p129;replace q129:=eq_true q129;have ea_:=Option.some.inj (hx128_2.symm.trans hx129_2)
          injection ea_ with ea_ en_ ec_
          subst ea_;subst ec_;clear en_
          go_wp2_with (first|((with_reducible refine gate_dst (N:=108) rfl ?_);(try (refine gate_guard (by rfl) ?_;dsimp only));refine arr_load (p:=4) (n:=144) (k:=.i64) (g:=gb119) (l:=x120000_2) ?hg (N:=108) ?hd (t:=54) ?ho ?hp (by (with_reducible repeat (first|apply kN_|apply kD_|apply kA_));exact BK119.out) Tryd.underlying54 (by kernel_rfl) (od_ (by first|(with_reducible assumption)|assumption)) ?_;(case hd=>rfl);(case hg=>rfl);(case ho=>rfl);(case hp=>rfl))|((with_reducible refine gate_store (t:=54) (p:=2) rfl ?_);refine arr_store (p:=2) (v:=?vv_w82) (n:=144) (k:=.i64) (g:=gb118) (l:=x119000_2) (l2:=x120000_2) ?hg ?hn (t:=54) ?ho ?hp ?hv (by (with_reducible repeat (first|apply kN_|apply kD_|apply kA_));exact BK118.out) (by kernel_rfl) (od_ (by first|(with_reducible assumption)|assumption)) (od_ (by first|(with_reducible assumption)|assumption)) ?_;(case ho=>rfl);(case hg=>rfl);(case hn=>rfl);(case hp=>rfl);(case hv=>rfl);intro w82 hg hx;have n0_:=am_ (hx);have n1_:=am_ (blk_grown (g:=gb119) (o:=.cells (arrC .i64 x120000_2) 54 (0,0)) (by (with_reducible repeat (first|apply kN_|apply kD_|apply kA_));exact BK119.out) hg (fun e_=>NB119_118.out (Option.some.inj e_)));have n2_:=am_ (Below.grown (by repeat (first|(with_reducible first|exact HB.out|apply bA_|apply bN_|apply bD_|refine bS_ ?_ GE118.out|refine bS_ ?_ GE119.out)|exact HB.out)) hg (bZ_ (by repeat (first|(with_reducible first|exact HB.out|apply bA_|apply bN_|apply bD_|refine bS_ ?_ GE118.out|refine bS_ ?_ GE119.out)|exact HB.out))) (fun k_ e_=>by cases e_;exact GE118.out));clear BK118;clear BK119;clear HB;have BK118:=n0_;have BK119:=n1_;have HB:=n2_;clear n0_ n1_ n2_;clear hg hx))
          refine bodyPost_ret (results_ct rfl _ _ gb118 54 (arrC .i64 x120000_2) (0,0) _ rfl (by (with_reducible repeat (first|apply kN_|apply kD_|apply kA_));exact BK118.out) Tryd.underlying54 rfl (by first|(rw [arrC_size,(od_ (by first|(with_reducible assumption)|assumption) : x120000_2.length = 144)];kernel_rfl)|kernel_rfl)) rfl ?_;exact ⟨by first|rfl|(simp [errW_none,errW_some] <;> rfl)|(simp [*,errW_none,errW_some] <;> rfl),by repeat (first|(with_reducible first|exact HB.out|apply bA_|apply bN_|apply bD_|refine bS_ ?_ GE118.out|refine bS_ ?_ GE119.out)|exact HB.out)⟩
         ·
          rw [if_neg c81] at H;exact absurd H (by simp)
        ·
         rw [if_neg c80] at H;exact absurd H (by simp)
      ·
       rw [if_neg c15] at H;exact absurd H (by simp)
end Go.Proofs.YteinapckfhpdkaaDoor.Q
