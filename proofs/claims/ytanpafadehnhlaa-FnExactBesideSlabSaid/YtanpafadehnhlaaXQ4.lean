-- By a program of this session's: of the print's words what this claim needs. Lean checks it.
import Derived.Test.YtanpafadehnhlaaXQ0
import Derived.Test.YtanpafadehnhlaaXQ1
import Derived.Test.YtanpafadehnhlaaXQ2
import Derived.Test.YtanpafadehnhlaaXQ3
namespace Go.Proofs.Ytanpafadehnhlaa.Q
open Go.RowKit Go.Proofs.YtanpafadehnhlaaW.PrintWords Go.Proofs.YtanpafadehnhlaaW.PrintLast Go.Proofs.YtanpafadehnhlaaW.PrintMore
attribute [local go_sem] max2_int min2_int max_two min_two max_three min_three max_four min_four
set_option linter.unusedVariables false
set_option linter.unusedSimpArgs false
mutual
def spec_l01Lay.j0 : Nat → List (S30) → Bool → List Int → List Int → Option (List Int × Bool)
 | 0,_,_,_,_=>none
 | k + 1,x0,x33,x138000,x139000=>if x33 = true then (if x139000.length = 144 then (if x138000.length = 144 then (some (x139000,false)) else (none)) else (none)) else (spec_l01Lay.l0 k x0 0 x138000 x139000)
def spec_l01Lay.l0 : Nat → List (S30) → Int → List Int → List Int → Option (List Int × Bool)
 | 0,_,_,_,_=>none
 | k + 1,x0,x5,x138000,x139000=>if 0 < (x0.length : Int) then (if x5 < (((rd_T30 x0 0).f2).length : Int) then (if 0≤x5 then ((spec_l01Lies.f x0 ((rd_T38 ((rd_T30 x0 0).f2) x5).f0) ((rd_T38 ((rd_T30 x0 0).f2) x5).f1) ((rd_T38 ((rd_T30 x0 0).f2) x5).f2) ((rd_T38 ((rd_T30 x0 0).f2) x5).f3)).bind fun t153=>(if t153 = true then (if x5 > 0 then (if 0≤(wrap64 (x5 - 1)) then (if (wrap64 (x5 - 1)) < (((rd_T30 x0 0).f2).length : Int) then ((spec_l01Before.f ((rd_T38 ((rd_T30 x0 0).f2) (wrap64 (x5 - 1))).f0) ((rd_T38 ((rd_T30 x0 0).f2) (wrap64 (x5 - 1))).f1) ((rd_T38 ((rd_T30 x0 0).f2) (wrap64 (x5 - 1))).f2) ((rd_T38 ((rd_T30 x0 0).f2) (wrap64 (x5 - 1))).f3) ((rd_T38 ((rd_T30 x0 0).f2) x5).f0) ((rd_T38 ((rd_T30 x0 0).f2) x5).f1) ((rd_T38 ((rd_T30 x0 0).f2) x5).f2) ((rd_T38 ((rd_T30 x0 0).f2) x5).f3)).bind fun t157=>(spec_l01Lay.j2 k x0 x5 (!t157) x138000 x139000 ((rd_T38 ((rd_T30 x0 0).f2) x5).f0) ((rd_T38 ((rd_T30 x0 0).f2) x5).f1) ((rd_T38 ((rd_T30 x0 0).f2) x5).f2) ((rd_T38 ((rd_T30 x0 0).f2) x5).f3))) else (none)) else (none)) else (spec_l01Lay.j2 k x0 x5 false x138000 x139000 ((rd_T38 ((rd_T30 x0 0).f2) x5).f0) ((rd_T38 ((rd_T30 x0 0).f2) x5).f1) ((rd_T38 ((rd_T30 x0 0).f2) x5).f2) ((rd_T38 ((rd_T30 x0 0).f2) x5).f3))) else (spec_l01Lay.j2 k x0 x5 true x138000 x139000 ((rd_T38 ((rd_T30 x0 0).f2) x5).f0) ((rd_T38 ((rd_T30 x0 0).f2) x5).f1) ((rd_T38 ((rd_T30 x0 0).f2) x5).f2) ((rd_T38 ((rd_T30 x0 0).f2) x5).f3)))) else (none)) else (if x139000.length = 144 then (if x138000.length = 144 then (some (x139000,true)) else (none)) else (none))) else (none)
def spec_l01Lay.j2 : Nat → List (S30) → Int → Bool → List Int → List Int → Int → Int → Int → Int → Option (List Int × Bool)
 | 0,_,_,_,_,_,_,_,_,_=>none
 | k + 1,x0,x5,x71,x138000,x139000,x153000,x153001,x153002,x153003=>if x71 = true then (if x139000.length = 144 then (if x138000.length = 144 then (some (x139000,false)) else (none)) else (none)) else (spec_l01Lay.l1 k x0 x5 x153001 x138000 x139000 x153000 x153001 x153002 x153003)
def spec_l01Lay.l1 : Nat → List (S30) → Int → Int → List Int → List Int → Int → Int → Int → Int → Option (List Int × Bool)
 | 0,_,_,_,_,_,_,_,_,_=>none
 | k + 1,x0,x5,x7,x138000,x139000,x153000,x153001,x153002,x153003=>if x7 < (IntKind.i8.wrap (x153001 + x153003)) then (spec_l01Lay.l2 k x0 x5 x7 x153000 x138000 x139000 x153000 x153001 x153002 x153003) else (spec_l01Lay.l0 k x0 (wrap64 (x5 + 1)) x138000 x139000)
def spec_l01Lay.l2 : Nat → List (S30) → Int → Int → Int → List Int → List Int → Int → Int → Int → Int → Option (List Int × Bool)
 | 0,_,_,_,_,_,_,_,_,_,_=>none
 | k + 1,x0,x5,x7,x8,x138000,x139000,x153000,x153001,x153002,x153003=>if x8 < (IntKind.i8.wrap (x153000 + x153002)) then (if 0≤x7 then (if x7 < 12 then (if 0≤x8 then (if x8 < 12 then (if x7 * 12 + x8 < (x139000.length : Int) then (if (rd x139000 (x7 * 12 + x8)) = 0 then (spec_l01Lay.l2 k x0 x5 x7 (IntKind.i8.wrap (x8 + 1)) x138000 (x139000.set (x7 * 12 + x8 : Int).toNat (wrap64 (x5 + 1))) x153000 x153001 x153002 x153003) else (if x139000.length = 144 then (if x138000.length = 144 then (some (x139000,false)) else (none)) else (none))) else (none)) else (none)) else (none)) else (none)) else (none)) else (spec_l01Lay.l1 k x0 x5 (IntKind.i8.wrap (x7 + 1)) x138000 x139000 x153000 x153001 x153002 x153003)
end
def spec_l01Lay.f (k : Nat) (l0 : List (S30)) : Option (List Int × Bool) := if 0 < (l0.length : Int) then ((spec_l01Edge.f (wrap64 ((rd_T30 l0 0).f0))).bind fun t141 => (if t141 = true then ((spec_l01Edge.f (wrap64 ((rd_T30 l0 0).f1))).bind fun t144 => (if t144 = true then (spec_l01Lay.j0 k l0 (decide ((((rd_T30 l0 0).f2).length : Int) > 60)) (arrZ 144) (arrZ 144)) else (spec_l01Lay.j0 k l0 true (arrZ 144) (arrZ 144)))) else (spec_l01Lay.j0 k l0 true (arrZ 144) (arrZ 144)))) else (none)
theorem spec_l01Lay.mono_l : ∀ k, (∀ y0 y1 y2 y3, LeO (spec_l01Lay.j0 k y0 y1 y2 y3) (spec_l01Lay.j0 (k + 1) y0 y1 y2 y3)) ∧ (∀ y0 y1 y2 y3, LeO (spec_l01Lay.l0 k y0 y1 y2 y3) (spec_l01Lay.l0 (k + 1) y0 y1 y2 y3)) ∧ (∀ y0 y1 y2 y3 y4 y5 y6 y7 y8, LeO (spec_l01Lay.j2 k y0 y1 y2 y3 y4 y5 y6 y7 y8) (spec_l01Lay.j2 (k + 1) y0 y1 y2 y3 y4 y5 y6 y7 y8)) ∧ (∀ y0 y1 y2 y3 y4 y5 y6 y7 y8, LeO (spec_l01Lay.l1 k y0 y1 y2 y3 y4 y5 y6 y7 y8) (spec_l01Lay.l1 (k + 1) y0 y1 y2 y3 y4 y5 y6 y7 y8)) ∧ (∀ y0 y1 y2 y3 y4 y5 y6 y7 y8 y9, LeO (spec_l01Lay.l2 k y0 y1 y2 y3 y4 y5 y6 y7 y8 y9) (spec_l01Lay.l2 (k + 1) y0 y1 y2 y3 y4 y5 y6 y7 y8 y9))
 | 0=>⟨fun _ _ _ _ r h=>by simp [spec_l01Lay.j0] at h,fun _ _ _ _ r h=>by simp [spec_l01Lay.l0] at h,fun _ _ _ _ _ _ _ _ _ r h=>by simp [spec_l01Lay.j2] at h,fun _ _ _ _ _ _ _ _ _ r h=>by simp [spec_l01Lay.l1] at h,fun _ _ _ _ _ _ _ _ _ _ r h=>by simp [spec_l01Lay.l2] at h⟩
 | k + 1=>by
  obtain ⟨ih0,ih1,ih2,ih3,ih4⟩:=spec_l01Lay.mono_l k;refine ⟨?_,?_,?_,?_,?_⟩
  ·
   intro y0 y1 y2 y3
   unfold spec_l01Lay.j0
   repeat' first
   | (with_reducible exact ih0 _ _ _ _)
   | (with_reducible exact ih1 _ _ _ _)
   | (with_reducible exact ih2 _ _ _ _ _ _ _ _ _)
   | (with_reducible exact ih3 _ _ _ _ _ _ _ _ _)
   | (with_reducible exact ih4 _ _ _ _ _ _ _ _ _ _)
   | (with_reducible exact LeO.refl _)
   | (with_reducible exact LeO.none _)
   | (with_reducible refine LeO.ite ?_ ?_)
   | (with_reducible refine LeO.bind ?_ (fun _=>?_))
   | exact ih0 _ _ _ _
   | exact ih1 _ _ _ _
   | exact ih2 _ _ _ _ _ _ _ _ _
   | exact ih3 _ _ _ _ _ _ _ _ _
   | exact ih4 _ _ _ _ _ _ _ _ _ _
   | exact LeO.none _
   | refine LeO.ite ?_ ?_
   | refine LeO.bind ?_ (fun _=>?_)
  ·
   intro y0 y1 y2 y3
   unfold spec_l01Lay.l0
   repeat' first
   | (with_reducible exact ih0 _ _ _ _)
   | (with_reducible exact ih1 _ _ _ _)
   | (with_reducible exact ih2 _ _ _ _ _ _ _ _ _)
   | (with_reducible exact ih3 _ _ _ _ _ _ _ _ _)
   | (with_reducible exact ih4 _ _ _ _ _ _ _ _ _ _)
   | (with_reducible exact LeO.refl _)
   | (with_reducible exact LeO.none _)
   | (with_reducible refine LeO.ite ?_ ?_)
   | (with_reducible refine LeO.bind ?_ (fun _=>?_))
   | exact ih0 _ _ _ _
   | exact ih1 _ _ _ _
   | exact ih2 _ _ _ _ _ _ _ _ _
   | exact ih3 _ _ _ _ _ _ _ _ _
   | exact ih4 _ _ _ _ _ _ _ _ _ _
   | exact LeO.none _
   | refine LeO.ite ?_ ?_
   | refine LeO.bind ?_ (fun _=>?_)
  ·
   intro y0 y1 y2 y3 y4 y5 y6 y7 y8
   unfold spec_l01Lay.j2
   repeat' first
   | (with_reducible exact ih0 _ _ _ _)
   | (with_reducible exact ih1 _ _ _ _)
   | (with_reducible exact ih2 _ _ _ _ _ _ _ _ _)
   | (with_reducible exact ih3 _ _ _ _ _ _ _ _ _)
   | (with_reducible exact ih4 _ _ _ _ _ _ _ _ _ _)
   | (with_reducible exact LeO.refl _)
   | (with_reducible exact LeO.none _)
   | (with_reducible refine LeO.ite ?_ ?_)
   | (with_reducible refine LeO.bind ?_ (fun _=>?_))
   | exact ih0 _ _ _ _
   | exact ih1 _ _ _ _
   | exact ih2 _ _ _ _ _ _ _ _ _
   | exact ih3 _ _ _ _ _ _ _ _ _
   | exact ih4 _ _ _ _ _ _ _ _ _ _
   | exact LeO.none _
   | refine LeO.ite ?_ ?_
   | refine LeO.bind ?_ (fun _=>?_)
  ·
   intro y0 y1 y2 y3 y4 y5 y6 y7 y8
   unfold spec_l01Lay.l1
   repeat' first
   | (with_reducible exact ih0 _ _ _ _)
   | (with_reducible exact ih1 _ _ _ _)
   | (with_reducible exact ih2 _ _ _ _ _ _ _ _ _)
   | (with_reducible exact ih3 _ _ _ _ _ _ _ _ _)
   | (with_reducible exact ih4 _ _ _ _ _ _ _ _ _ _)
   | (with_reducible exact LeO.refl _)
   | (with_reducible exact LeO.none _)
   | (with_reducible refine LeO.ite ?_ ?_)
   | (with_reducible refine LeO.bind ?_ (fun _=>?_))
   | exact ih0 _ _ _ _
   | exact ih1 _ _ _ _
   | exact ih2 _ _ _ _ _ _ _ _ _
   | exact ih3 _ _ _ _ _ _ _ _ _
   | exact ih4 _ _ _ _ _ _ _ _ _ _
   | exact LeO.none _
   | refine LeO.ite ?_ ?_
   | refine LeO.bind ?_ (fun _=>?_)
  ·
   intro y0 y1 y2 y3 y4 y5 y6 y7 y8 y9
   unfold spec_l01Lay.l2
   repeat' first
   | (with_reducible exact ih0 _ _ _ _)
   | (with_reducible exact ih1 _ _ _ _)
   | (with_reducible exact ih2 _ _ _ _ _ _ _ _ _)
   | (with_reducible exact ih3 _ _ _ _ _ _ _ _ _)
   | (with_reducible exact ih4 _ _ _ _ _ _ _ _ _ _)
   | (with_reducible exact LeO.refl _)
   | (with_reducible exact LeO.none _)
   | (with_reducible refine LeO.ite ?_ ?_)
   | (with_reducible refine LeO.bind ?_ (fun _=>?_))
   | exact ih0 _ _ _ _
   | exact ih1 _ _ _ _
   | exact ih2 _ _ _ _ _ _ _ _ _
   | exact ih3 _ _ _ _ _ _ _ _ _
   | exact ih4 _ _ _ _ _ _ _ _ _ _
   | exact LeO.none _
   | refine LeO.ite ?_ ?_
   | refine LeO.bind ?_ (fun _=>?_)
theorem spec_l01Lay.mono : ∀ a0 k, LeO (spec_l01Lay.f k a0) (spec_l01Lay.f (k + 1) a0) := by
 intro a0 k;obtain ⟨ih0,ih1,ih2,ih3,ih4⟩:=spec_l01Lay.mono_l k
 unfold spec_l01Lay.f
 repeat' first
   | (with_reducible exact ih0 _ _ _ _)
   | (with_reducible exact ih1 _ _ _ _)
   | (with_reducible exact ih2 _ _ _ _ _ _ _ _ _)
   | (with_reducible exact ih3 _ _ _ _ _ _ _ _ _)
   | (with_reducible exact ih4 _ _ _ _ _ _ _ _ _ _)
   | (with_reducible exact LeO.refl _)
   | (with_reducible exact LeO.none _)
   | (with_reducible refine LeO.ite ?_ ?_)
   | (with_reducible refine LeO.bind ?_ (fun _=>?_))
   | exact ih0 _ _ _ _
   | exact ih1 _ _ _ _
   | exact ih2 _ _ _ _ _ _ _ _ _
   | exact ih3 _ _ _ _ _ _ _ _ _
   | exact ih4 _ _ _ _ _ _ _ _ _ _
   | exact LeO.none _
   | refine LeO.ite ?_ ?_
   | refine LeO.bind ?_ (fun _=>?_)
def spec_l01Lay.T8 : Bool × List (List Nat × List Nat) := (true, [([], []), ([], []), ([0, 1], [0, 1]), ([2], [2]), ([3, 2], [3]), ([4], [4]), ([5, 4], [4, 5]), ([6, 4, 4], [4, 6]), ([7], [7]), ([8, 7], [7, 8]), ([9, 7], [7, 9]), ([10, 7], [7, 10]), ([7], [7]), ([12, 7], [7, 12]), ([11, 13, 7], [7, 11, 13]), ([14, 7], [7, 14]), ([7], [7]), ([15, 16, 7, 7], [7, 15, 16]), ([17, 7], [7, 17]), ([7, 18, 4], [4, 7, 18]), ([4, 19], [4, 19])])
def spec_l01Lay.B8 : List Nat := [0, 0, 3, 7, 15, 31, 63, 127, 255, 511, 1023, 2047, 255, 4351, 16383, 32767, 255, 131071, 262143, 524287, 1048575]
theorem spec_l01Lay.tab8 : rtab .any (opsOf Try.f55 8) = spec_l01Lay.T8 := by kernel_rfl
theorem spec_l01Lay.bits8 : waitsOk spec_l01Lay.T8.2 spec_l01Lay.B8 = true := by kernel_rfl
set_option maxHeartbeats 8000000 in
set_option maxRecDepth 100000 in
theorem spec_l01Lay.calls (k : Nat) (A0 : Option Addr) (c0 : Nat) (l0 : List (S30)) (r1 : List Int) (r2 : Bool) (w : World) (hr0 : Kd.C k30 w A0 l0.length l0) (hc0 : l0.length ≤ c0) (h : spec_l01Lay.f k l0 = some (r1, r2)) :
  Calls Try.prog 55 #[.pointer A0] w fun e w'=>e = .returned (.tuple #[.agg (arrC .i64 r1),.bool r2]) ∧ Below w.heap.size w w':=by
 have hu83:=Try.underlying83;have hu38:=Try.underlying38;have HR0:=am_ hr0;have HC0:=am_ hc0;clear hr0 hc0;have HB:=am_ (Below.refl w.heap.size w);have H : (if 0 < (l0.length : Int) then ((spec_l01Edge.f (wrap64 ((rd_T30 l0 0).f0))).bind fun t141=>(if t141 = true then ((spec_l01Edge.f (wrap64 ((rd_T30 l0 0).f1))).bind fun t144=>(if t144 = true then (spec_l01Lay.j0 k l0 (decide ((((rd_T30 l0 0).f2).length : Int) > 60)) (arrZ 144) (arrZ 144)) else (spec_l01Lay.j0 k l0 true (arrZ 144) (arrZ 144)))) else (spec_l01Lay.j0 k l0 true (arrZ 144) (arrZ 144)))) else (none)) = some (r1,r2):=h;clear h;have HC2:=am_ H;clear H
 go_enter Try.func55,Try.ntmps55
 go_upto_region 2 with (first|((with_reducible refine gate_dst (N:=2) rfl ?_);(try (refine gate_guard (by rfl) ?_;dsimp only));refine box_event ?hg (N:=2) ?hd (cs:=(arrC .i64 (arrZ 144))) (t:=83) ?hr ?_;(case hd=>rfl);(case hg=>rfl);(case hr=>exact arr_alloc rfl .i64 144 (by kernel_rfl));intro gb137 hg w3 hbox hb;have n0_:=am_ (bT_ (by repeat (first|(with_reducible first|exact HB.out|apply bA_|apply bN_|apply bD_)|exact HB.out)) hb);have n1_:=am_ (hbox);have n2_:=am_ ((by rw [hg];exact (below_size (by repeat (first|(with_reducible first|exact HB.out|apply bA_|apply bN_|apply bD_)|exact HB.out))) : w.heap.size≤gb137));have n3_:=n2_;clear HB;have HB:=n0_;have BK137:=n1_;have GW137:=n2_;have GE137:=n3_;clear n0_ n1_ n2_ n3_;clear hb hbox hg)|((with_reducible refine gate_dst (N:=9) rfl ?_);(try (refine gate_guard (by rfl) ?_;dsimp only));refine arr_build ?hg (N:=9) ?hd (t:=83) ?ho .i64 144 Try.underlying83 (by kernel_rfl) (by kernel_rfl) ?_;(case hd=>rfl);(case hg=>rfl);(case ho=>rfl))|((with_reducible refine gate_dst (N:=4) rfl ?_);(try (refine gate_guard (by rfl) ?_;dsimp only));refine box_event ?hg (N:=4) ?hd (cs:=(arrC .i64 (arrZ 144))) (t:=83) ?hr ?_;(case hd=>rfl);(case hg=>rfl);(case hr=>exact arr_alloc rfl .i64 144 (by kernel_rfl));intro gb138 hg w4 hbox hb;have n0_:=am_ (blk_below (g:=gb137) (o:=.cells (arrC .i64 (arrZ 144)) 83 (0,0)) (by (with_reducible repeat (first|apply kN_|apply kD_|apply kA_));exact BK137.out) hb);have n1_:=am_ (bT_ (by repeat (first|(with_reducible first|exact HB.out|apply bA_|apply bN_|apply bD_|refine bS_ ?_ GE137.out)|exact HB.out)) hb);have n2_:=am_ (hbox);have n3_:=am_ ((by rw [hg];exact (below_size (by repeat (first|(with_reducible first|exact HB.out|apply bA_|apply bN_|apply bD_|refine bS_ ?_ GE137.out)|exact HB.out))) : w.heap.size≤gb138));have n4_:=n3_;have n5_:=am_ ((by rw [hg];exact Nat.ne_of_lt (blk_lt (g:=gb137) (o:=.cells (arrC .i64 (arrZ 144)) 83 (0,0)) (by (with_reducible repeat (first|apply kN_|apply kD_|apply kA_));exact BK137.out)) : gb137 ≠ gb138));have n6_:=am_ ((by rw [hg];exact Nat.ne_of_gt (blk_lt (g:=gb137) (o:=.cells (arrC .i64 (arrZ 144)) 83 (0,0)) (by (with_reducible repeat (first|apply kN_|apply kD_|apply kA_));exact BK137.out)) : gb138 ≠ gb137));clear BK137;clear HB;have BK137:=n0_;have HB:=n1_;have BK138:=n2_;have GW138:=n3_;have GE138:=n4_;have NB137_138:=n5_;have NB138_137:=n6_;clear n0_ n1_ n2_ n3_ n4_ n5_ n6_;clear hb hbox hg)|((with_reducible refine gate_store (t:=83) (p:=4) rfl ?_);refine arr_store (p:=4) (v:=?vv_w5) (n:=144) (k:=.i64) (g:=gb138) (l:=(arrZ 144)) (l2:=(arrZ 144)) ?hg ?hn (t:=83) ?ho ?hp ?hv (by (with_reducible repeat (first|apply kN_|apply kD_|apply kA_));exact BK138.out) (by kernel_rfl) (arrZ_length _) (arrZ_length _) ?_;(case ho=>rfl);(case hg=>rfl);(case hn=>rfl);(case hp=>rfl);(case hv=>rfl);intro w5 hg hx;have n0_:=am_ (blk_grown (g:=gb137) (o:=.cells (arrC .i64 (arrZ 144)) 83 (0,0)) (by (with_reducible repeat (first|apply kN_|apply kD_|apply kA_));exact BK137.out) hg (fun e_=>NB137_138.out (Option.some.inj e_)));have n1_:=am_ (hx);have n2_:=am_ (Below.grown (by repeat (first|(with_reducible first|exact HB.out|apply bA_|apply bN_|apply bD_|refine bS_ ?_ GE137.out|refine bS_ ?_ GE138.out)|exact HB.out)) hg (below_size (by repeat (first|(with_reducible first|exact HB.out|apply bA_|apply bN_|apply bD_|refine bS_ ?_ GE137.out|refine bS_ ?_ GE138.out)|exact HB.out))) (fun k_ e_=>by cases e_;exact GE138.out));clear BK137;clear BK138;clear HB;have BK137:=n0_;have BK138:=n1_;have HB:=n2_;clear n0_ n1_ n2_;clear hg hx))
 (try simp only [Act.put,z1_,z2_,z3_])
 go_cut [33] (fun v33 wc=>∃ (kq : Nat) (x33_1 : Bool),v33 = .bool x33_1 ∧ Aside0 (spec_l01Lay.j0 kq l0 x33_1 (arrZ 144) (arrZ 144) = some (r1,r2)) ∧ Aside0 (kq≤k) ∧ Aside0 (wc.heap[gb137]? = some (.cells (arrC .i64 (arrZ 144)) 83 (0,0))) ∧ Aside0 (wc.heap[gb138]? = some (.cells (arrC .i64 (arrZ 144)) 83 (0,0))) ∧ Aside0 (Below w.heap.size w wc))
 case first =>
  have H:=HC2.out;clear HC2
  by_cases c6 : 0 < (l0.length : Int)
  ·
   rw [if_pos c6] at H;have c6b0 : decide (0 < (l0.length : Int)) = true:=decide_eq_true c6;have c6b1 : decide (0 < l0.length) = true:=decide_eq_true (by omega);clear c6
   (first|rw [c6b0]|(simp only [i64_w,i32_w];rw [c6b0])|skip)
   replace H:=Option.bind_eq_some_iff.mp H;obtain ⟨t141,A70,H⟩:=H;replace H : (if t141 = true then ((spec_l01Edge.f (wrap64 ((rd_T30 l0 0).f1))).bind fun t144=>(if t144 = true then (spec_l01Lay.j0 k l0 (decide ((((rd_T30 l0 0).f2).length : Int) > 60)) (arrZ 144) (arrZ 144)) else (spec_l01Lay.j0 k l0 true (arrZ 144) (arrZ 144)))) else (spec_l01Lay.j0 k l0 true (arrZ 144) (arrZ 144))) = some (r1,r2):=H;have A7:=am_ A70;clear A70
   by_cases c8 : t141 = true
   ·
    subst c8;have H1 : ((spec_l01Edge.f (wrap64 ((rd_T30 l0 0).f1))).bind fun t144=>(if t144 = true then (spec_l01Lay.j0 k l0 (decide ((((rd_T30 l0 0).f2).length : Int) > 60)) (arrZ 144) (arrZ 144)) else (spec_l01Lay.j0 k l0 true (arrZ 144) (arrZ 144)))) = some (r1,r2):=by rw [if_pos rfl] at H;exact H
    clear H;have H:=H1;clear H1;replace H:=Option.bind_eq_some_iff.mp H;obtain ⟨t144,A90,H⟩:=H;replace H : (if t144 = true then (spec_l01Lay.j0 k l0 (decide ((((rd_T30 l0 0).f2).length : Int) > 60)) (arrZ 144) (arrZ 144)) else (spec_l01Lay.j0 k l0 true (arrZ 144) (arrZ 144))) = some (r1,r2):=H;have A9:=am_ A90;clear A90
    by_cases c10 : t144 = true
    ·
     subst c10;have H1 : (spec_l01Lay.j0 k l0 (decide ((((rd_T30 l0 0).f2).length : Int) > 60)) (arrZ 144) (arrZ 144)) = some (r1,r2):=by rw [if_pos rfl] at H;exact H
     clear H;have H:=H1;clear H1;have H':=am_ H;clear H;have p139 : 0≤(0 : Int):=(by omega)
     have q139 : 0 < (l0.length : Int):=od_ (by first|(with_reducible assumption)|assumption);obtain ⟨ad139,A139_2,c139_2,e139,hx139_0,hx139_1,hx139_2,hl139_2,hi139_2⟩:=at_T30 HR0.out 0 p139 q139
     cases e139
     have qi139 : (0 < l0.length) = True:=eq_true (by omega);(try rw [show ((0 : Int)).toNat = 0 from rfl] at hx139_0);(try rw [show 0 * 3 = 0 from rfl] at hx139_0);(try rw [Addr.add_zero'] at hx139_0);(try rw [show ((0 : Int)).toNat = 0 from rfl] at hx139_1);(try rw [show 0 * 3 = 0 from rfl] at hx139_1);(try rw [Addr.add_zero'] at hx139_1);(try rw [show ((0 : Int)).toNat = 0 from rfl] at hx139_2);(try rw [show 0 * 3 = 0 from rfl] at hx139_2);(try rw [Addr.add_zero'] at hx139_2);replace hx139_0:=(HB.out.cell (bl_ w _ hx139_0)).trans hx139_0;replace hx139_1:=(HB.out.cell (bl_ w _ hx139_1)).trans hx139_1;replace hx139_2:=(HB.out.cell (bl_ w _ hx139_2)).trans hx139_2;have HR139_2:=am_ hi139_2;have HC139_2:=am_ hl139_2;clear hi139_2 hl139_2;replace p139:=eq_true p139;replace q139:=eq_true q139;have p140 : 0≤(0 : Int):=(by omega)
     have q140 : 0 < (l0.length : Int):=od_ (by first|(with_reducible assumption)|assumption);obtain ⟨ad140,A140_2,c140_2,e140,hx140_0,hx140_1,hx140_2,hl140_2,hi140_2⟩:=at_T30 HR0.out 0 p140 q140;obtain rfl : ad139 = ad140:=(by injection e140)
     have qi140 : (0 < l0.length) = True:=eq_true (by omega);(try rw [show ((0 : Int)).toNat = 0 from rfl] at hx140_0);(try rw [show 0 * 3 = 0 from rfl] at hx140_0);(try rw [Addr.add_zero'] at hx140_0);(try rw [show ((0 : Int)).toNat = 0 from rfl] at hx140_1);(try rw [show 0 * 3 = 0 from rfl] at hx140_1);(try rw [Addr.add_zero'] at hx140_1);(try rw [show ((0 : Int)).toNat = 0 from rfl] at hx140_2);(try rw [show 0 * 3 = 0 from rfl] at hx140_2);(try rw [Addr.add_zero'] at hx140_2);replace hx140_0:=(HB.out.cell (bl_ w _ hx140_0)).trans hx140_0;replace hx140_1:=(HB.out.cell (bl_ w _ hx140_1)).trans hx140_1;replace hx140_2:=(HB.out.cell (bl_ w _ hx140_2)).trans hx140_2;have HR140_2:=am_ hi140_2;have HC140_2:=am_ hl140_2;clear hi140_2 hl140_2;replace p140:=eq_true p140;replace q140:=eq_true q140;have ea_:=Option.some.inj (hx139_2.symm.trans hx140_2)
     injection ea_ with ea_ en_ ec_
     subst ea_;subst ec_;clear en_
     go_wp2_with (first|((with_reducible refine gate_callee (f:=58) rfl ?_);refine goesL_ (some 15) rfl rfl Try.func58 (by kernel_rfl) rfl #[.int .i64 (wrap64 ((rd_T30 l0 0).f0))] rfl (by (try simp only [List.map_toArray,List.map_cons,List.map_nil]);first|done|rfl|(simp only [List.length_drop,List.length_take];rfl)) ?_;(with_reducible refine (spec_l01Edge.calls (wrap64 ((rd_T30 l0 0).f0)) true _ A7.out).mono ?_);rintro e w' ⟨rfl,⟨nd,rfl⟩⟩;refine ⟨_,rfl,?_⟩;have p142 : 0≤(0 : Int):=(by omega);have q142 : 0 < (l0.length : Int):=od_ (by first|(with_reducible assumption)|assumption);obtain ⟨ad142,A142_2,c142_2,e142,hx142_0,hx142_1,hx142_2,hl142_2,hi142_2⟩:=at_T30 HR0.out 0 p142 q142;obtain rfl : ad139 = ad142:=(by injection e142);have qi142 : (0 < l0.length) = True:=eq_true (by omega);(try rw [show ((0 : Int)).toNat = 0 from rfl] at hx142_0);(try rw [show 0 * 3 = 0 from rfl] at hx142_0);(try rw [Addr.add_zero'] at hx142_0);(try rw [show ((0 : Int)).toNat = 0 from rfl] at hx142_1);(try rw [show 0 * 3 = 0 from rfl] at hx142_1);(try rw [Addr.add_zero'] at hx142_1);(try rw [show ((0 : Int)).toNat = 0 from rfl] at hx142_2);(try rw [show 0 * 3 = 0 from rfl] at hx142_2);(try rw [Addr.add_zero'] at hx142_2);replace hx142_0:=(HB.out.cell (bl_ w _ hx142_0)).trans hx142_0;replace hx142_1:=(HB.out.cell (bl_ w _ hx142_1)).trans hx142_1;replace hx142_2:=(HB.out.cell (bl_ w _ hx142_2)).trans hx142_2;have HR142_2:=am_ hi142_2;have HC142_2:=am_ hl142_2;clear hi142_2 hl142_2;replace p142:=eq_true p142;replace q142:=eq_true q142;have ea_:=Option.some.inj (hx139_2.symm.trans hx142_2);injection ea_ with ea_ en_ ec_;subst ea_;subst ec_;clear en_;have p143 : 0≤(0 : Int):=(by omega);have q143 : 0 < (l0.length : Int):=od_ (by first|(with_reducible assumption)|assumption);obtain ⟨ad143,A143_2,c143_2,e143,hx143_0,hx143_1,hx143_2,hl143_2,hi143_2⟩:=at_T30 HR0.out 0 p143 q143;obtain rfl : ad139 = ad143:=(by injection e143);have qi143 : (0 < l0.length) = True:=eq_true (by omega);(try rw [show ((0 : Int)).toNat = 0 from rfl] at hx143_0);(try rw [show 0 * 3 = 0 from rfl] at hx143_0);(try rw [Addr.add_zero'] at hx143_0);(try rw [show ((0 : Int)).toNat = 0 from rfl] at hx143_1);(try rw [show 0 * 3 = 0 from rfl] at hx143_1);(try rw [Addr.add_zero'] at hx143_1);(try rw [show ((0 : Int)).toNat = 0 from rfl] at hx143_2);(try rw [show 0 * 3 = 0 from rfl] at hx143_2);(try rw [Addr.add_zero'] at hx143_2);replace hx143_0:=(HB.out.cell (bl_ w _ hx143_0)).trans hx143_0;replace hx143_1:=(HB.out.cell (bl_ w _ hx143_1)).trans hx143_1;replace hx143_2:=(HB.out.cell (bl_ w _ hx143_2)).trans hx143_2;have HR143_2:=am_ hi143_2;have HC143_2:=am_ hl143_2;clear hi143_2 hl143_2;replace p143:=eq_true p143;replace q143:=eq_true q143;have ea_:=Option.some.inj (hx139_2.symm.trans hx143_2);injection ea_ with ea_ en_ ec_;subst ea_;subst ec_;clear en_)|(go_at_call 58;(with_reducible refine (spec_l01Edge.calls (wrap64 ((rd_T30 l0 0).f1)) true _ A9.out).mono ?_);rintro e w' ⟨rfl,⟨nd,rfl⟩⟩;have p145 : 0≤(0 : Int):=(by omega);have q145 : 0 < (l0.length : Int):=od_ (by first|(with_reducible assumption)|assumption);obtain ⟨ad145,A145_2,c145_2,e145,hx145_0,hx145_1,hx145_2,hl145_2,hi145_2⟩:=at_T30 HR0.out 0 p145 q145;obtain rfl : ad139 = ad145:=(by injection e145);have qi145 : (0 < l0.length) = True:=eq_true (by omega);(try rw [show ((0 : Int)).toNat = 0 from rfl] at hx145_0);(try rw [show 0 * 3 = 0 from rfl] at hx145_0);(try rw [Addr.add_zero'] at hx145_0);(try rw [show ((0 : Int)).toNat = 0 from rfl] at hx145_1);(try rw [show 0 * 3 = 0 from rfl] at hx145_1);(try rw [Addr.add_zero'] at hx145_1);(try rw [show ((0 : Int)).toNat = 0 from rfl] at hx145_2);(try rw [show 0 * 3 = 0 from rfl] at hx145_2);(try rw [Addr.add_zero'] at hx145_2);replace hx145_0:=(HB.out.cell (bl_ w _ hx145_0)).trans hx145_0;replace hx145_1:=(HB.out.cell (bl_ w _ hx145_1)).trans hx145_1;replace hx145_2:=(HB.out.cell (bl_ w _ hx145_2)).trans hx145_2;have HR145_2:=am_ hi145_2;have HC145_2:=am_ hl145_2;clear hi145_2 hl145_2;replace p145:=eq_true p145;replace q145:=eq_true q145;have ea_:=Option.some.inj (hx139_2.symm.trans hx145_2);injection ea_ with ea_ en_ ec_;subst ea_;subst ec_;clear en_;have p146 : 0≤(0 : Int):=(by omega);have q146 : 0 < (l0.length : Int):=od_ (by first|(with_reducible assumption)|assumption);obtain ⟨ad146,A146_2,c146_2,e146,hx146_0,hx146_1,hx146_2,hl146_2,hi146_2⟩:=at_T30 HR0.out 0 p146 q146;obtain rfl : ad139 = ad146:=(by injection e146);have qi146 : (0 < l0.length) = True:=eq_true (by omega);(try rw [show ((0 : Int)).toNat = 0 from rfl] at hx146_0);(try rw [show 0 * 3 = 0 from rfl] at hx146_0);(try rw [Addr.add_zero'] at hx146_0);(try rw [show ((0 : Int)).toNat = 0 from rfl] at hx146_1);(try rw [show 0 * 3 = 0 from rfl] at hx146_1);(try rw [Addr.add_zero'] at hx146_1);(try rw [show ((0 : Int)).toNat = 0 from rfl] at hx146_2);(try rw [show 0 * 3 = 0 from rfl] at hx146_2);(try rw [Addr.add_zero'] at hx146_2);replace hx146_0:=(HB.out.cell (bl_ w _ hx146_0)).trans hx146_0;replace hx146_1:=(HB.out.cell (bl_ w _ hx146_1)).trans hx146_1;replace hx146_2:=(HB.out.cell (bl_ w _ hx146_2)).trans hx146_2;have HR146_2:=am_ hi146_2;have HC146_2:=am_ hl146_2;clear hi146_2 hl146_2;replace p146:=eq_true p146;replace q146:=eq_true q146;have ea_:=Option.some.inj (hx139_2.symm.trans hx146_2);injection ea_ with ea_ en_ ec_;subst ea_;subst ec_;clear en_))
     go_meet
     case rel=>exact ⟨_,(decide ((((rd_T30 l0 0).f2).length : Int) > 60)),(by first|rfl|(simp;done)|(simp [*];done)),H',⟨by first|omega|exact Nat.le_refl _⟩,⟨by (with_reducible repeat (first|apply kN_|apply kD_|apply kA_));exact BK137.out⟩,⟨by (with_reducible repeat (first|apply kN_|apply kD_|apply kA_));exact BK138.out⟩,⟨by repeat (first|(with_reducible first|exact HB.out|apply bA_|apply bN_|apply bD_|refine bS_ ?_ GE137.out|refine bS_ ?_ GE138.out)|exact HB.out)⟩⟩
    ·
     replace c10:=Bool.eq_false_iff.mpr c10;subst c10;have H1 : (spec_l01Lay.j0 k l0 true (arrZ 144) (arrZ 144)) = some (r1,r2):=by rw [if_neg (show ¬ (false = true) by decide)] at H;exact H
     clear H;have H:=H1;clear H1;have H':=am_ H;clear H;have p139 : 0≤(0 : Int):=(by omega)
     have q139 : 0 < (l0.length : Int):=od_ (by first|(with_reducible assumption)|assumption);obtain ⟨ad139,A139_2,c139_2,e139,hx139_0,hx139_1,hx139_2,hl139_2,hi139_2⟩:=at_T30 HR0.out 0 p139 q139
     cases e139
     have qi139 : (0 < l0.length) = True:=eq_true (by omega);(try rw [show ((0 : Int)).toNat = 0 from rfl] at hx139_0);(try rw [show 0 * 3 = 0 from rfl] at hx139_0);(try rw [Addr.add_zero'] at hx139_0);(try rw [show ((0 : Int)).toNat = 0 from rfl] at hx139_1);(try rw [show 0 * 3 = 0 from rfl] at hx139_1);(try rw [Addr.add_zero'] at hx139_1);(try rw [show ((0 : Int)).toNat = 0 from rfl] at hx139_2);(try rw [show 0 * 3 = 0 from rfl] at hx139_2);(try rw [Addr.add_zero'] at hx139_2);replace hx139_0:=(HB.out.cell (bl_ w _ hx139_0)).trans hx139_0;replace hx139_1:=(HB.out.cell (bl_ w _ hx139_1)).trans hx139_1;replace hx139_2:=(HB.out.cell (bl_ w _ hx139_2)).trans hx139_2;have HR139_2:=am_ hi139_2;have HC139_2:=am_ hl139_2;clear hi139_2 hl139_2;replace p139:=eq_true p139;replace q139:=eq_true q139;have p140 : 0≤(0 : Int):=(by omega)
     have q140 : 0 < (l0.length : Int):=od_ (by first|(with_reducible assumption)|assumption);obtain ⟨ad140,A140_2,c140_2,e140,hx140_0,hx140_1,hx140_2,hl140_2,hi140_2⟩:=at_T30 HR0.out 0 p140 q140;obtain rfl : ad139 = ad140:=(by injection e140)
     have qi140 : (0 < l0.length) = True:=eq_true (by omega);(try rw [show ((0 : Int)).toNat = 0 from rfl] at hx140_0);(try rw [show 0 * 3 = 0 from rfl] at hx140_0);(try rw [Addr.add_zero'] at hx140_0);(try rw [show ((0 : Int)).toNat = 0 from rfl] at hx140_1);(try rw [show 0 * 3 = 0 from rfl] at hx140_1);(try rw [Addr.add_zero'] at hx140_1);(try rw [show ((0 : Int)).toNat = 0 from rfl] at hx140_2);(try rw [show 0 * 3 = 0 from rfl] at hx140_2);(try rw [Addr.add_zero'] at hx140_2);replace hx140_0:=(HB.out.cell (bl_ w _ hx140_0)).trans hx140_0;replace hx140_1:=(HB.out.cell (bl_ w _ hx140_1)).trans hx140_1;replace hx140_2:=(HB.out.cell (bl_ w _ hx140_2)).trans hx140_2;have HR140_2:=am_ hi140_2;have HC140_2:=am_ hl140_2;clear hi140_2 hl140_2;replace p140:=eq_true p140;replace q140:=eq_true q140;have ea_:=Option.some.inj (hx139_2.symm.trans hx140_2)
     injection ea_ with ea_ en_ ec_
     subst ea_;subst ec_;clear en_
     go_wp2_with (first|((with_reducible refine gate_callee (f:=58) rfl ?_);refine goesL_ (some 15) rfl rfl Try.func58 (by kernel_rfl) rfl #[.int .i64 (wrap64 ((rd_T30 l0 0).f0))] rfl (by (try simp only [List.map_toArray,List.map_cons,List.map_nil]);first|done|rfl|(simp only [List.length_drop,List.length_take];rfl)) ?_;(with_reducible refine (spec_l01Edge.calls (wrap64 ((rd_T30 l0 0).f0)) true _ A7.out).mono ?_);rintro e w' ⟨rfl,⟨nd,rfl⟩⟩;refine ⟨_,rfl,?_⟩;have p142 : 0≤(0 : Int):=(by omega);have q142 : 0 < (l0.length : Int):=od_ (by first|(with_reducible assumption)|assumption);obtain ⟨ad142,A142_2,c142_2,e142,hx142_0,hx142_1,hx142_2,hl142_2,hi142_2⟩:=at_T30 HR0.out 0 p142 q142;obtain rfl : ad139 = ad142:=(by injection e142);have qi142 : (0 < l0.length) = True:=eq_true (by omega);(try rw [show ((0 : Int)).toNat = 0 from rfl] at hx142_0);(try rw [show 0 * 3 = 0 from rfl] at hx142_0);(try rw [Addr.add_zero'] at hx142_0);(try rw [show ((0 : Int)).toNat = 0 from rfl] at hx142_1);(try rw [show 0 * 3 = 0 from rfl] at hx142_1);(try rw [Addr.add_zero'] at hx142_1);(try rw [show ((0 : Int)).toNat = 0 from rfl] at hx142_2);(try rw [show 0 * 3 = 0 from rfl] at hx142_2);(try rw [Addr.add_zero'] at hx142_2);replace hx142_0:=(HB.out.cell (bl_ w _ hx142_0)).trans hx142_0;replace hx142_1:=(HB.out.cell (bl_ w _ hx142_1)).trans hx142_1;replace hx142_2:=(HB.out.cell (bl_ w _ hx142_2)).trans hx142_2;have HR142_2:=am_ hi142_2;have HC142_2:=am_ hl142_2;clear hi142_2 hl142_2;replace p142:=eq_true p142;replace q142:=eq_true q142;have ea_:=Option.some.inj (hx139_2.symm.trans hx142_2);injection ea_ with ea_ en_ ec_;subst ea_;subst ec_;clear en_;have p143 : 0≤(0 : Int):=(by omega);have q143 : 0 < (l0.length : Int):=od_ (by first|(with_reducible assumption)|assumption);obtain ⟨ad143,A143_2,c143_2,e143,hx143_0,hx143_1,hx143_2,hl143_2,hi143_2⟩:=at_T30 HR0.out 0 p143 q143;obtain rfl : ad139 = ad143:=(by injection e143);have qi143 : (0 < l0.length) = True:=eq_true (by omega);(try rw [show ((0 : Int)).toNat = 0 from rfl] at hx143_0);(try rw [show 0 * 3 = 0 from rfl] at hx143_0);(try rw [Addr.add_zero'] at hx143_0);(try rw [show ((0 : Int)).toNat = 0 from rfl] at hx143_1);(try rw [show 0 * 3 = 0 from rfl] at hx143_1);(try rw [Addr.add_zero'] at hx143_1);(try rw [show ((0 : Int)).toNat = 0 from rfl] at hx143_2);(try rw [show 0 * 3 = 0 from rfl] at hx143_2);(try rw [Addr.add_zero'] at hx143_2);replace hx143_0:=(HB.out.cell (bl_ w _ hx143_0)).trans hx143_0;replace hx143_1:=(HB.out.cell (bl_ w _ hx143_1)).trans hx143_1;replace hx143_2:=(HB.out.cell (bl_ w _ hx143_2)).trans hx143_2;have HR143_2:=am_ hi143_2;have HC143_2:=am_ hl143_2;clear hi143_2 hl143_2;replace p143:=eq_true p143;replace q143:=eq_true q143;have ea_:=Option.some.inj (hx139_2.symm.trans hx143_2);injection ea_ with ea_ en_ ec_;subst ea_;subst ec_;clear en_)|(go_at_call 58;(with_reducible refine (spec_l01Edge.calls (wrap64 ((rd_T30 l0 0).f1)) false _ A9.out).mono ?_);rintro e w' ⟨rfl,⟨nd,rfl⟩⟩))
     go_meet
     case rel=>exact ⟨_,(true),(by first|rfl|(simp;done)|(simp [*];done)),H',⟨by first|omega|exact Nat.le_refl _⟩,⟨by (with_reducible repeat (first|apply kN_|apply kD_|apply kA_));exact BK137.out⟩,⟨by (with_reducible repeat (first|apply kN_|apply kD_|apply kA_));exact BK138.out⟩,⟨by repeat (first|(with_reducible first|exact HB.out|apply bA_|apply bN_|apply bD_|refine bS_ ?_ GE137.out|refine bS_ ?_ GE138.out)|exact HB.out)⟩⟩
   ·
    replace c8:=Bool.eq_false_iff.mpr c8;subst c8;have H1 : (spec_l01Lay.j0 k l0 true (arrZ 144) (arrZ 144)) = some (r1,r2):=by rw [if_neg (show ¬ (false = true) by decide)] at H;exact H
    clear H;have H:=H1;clear H1;have H':=am_ H;clear H;have p139 : 0≤(0 : Int):=(by omega)
    have q139 : 0 < (l0.length : Int):=od_ (by first|(with_reducible assumption)|assumption);obtain ⟨ad139,A139_2,c139_2,e139,hx139_0,hx139_1,hx139_2,hl139_2,hi139_2⟩:=at_T30 HR0.out 0 p139 q139
    cases e139
    have qi139 : (0 < l0.length) = True:=eq_true (by omega);(try rw [show ((0 : Int)).toNat = 0 from rfl] at hx139_0);(try rw [show 0 * 3 = 0 from rfl] at hx139_0);(try rw [Addr.add_zero'] at hx139_0);(try rw [show ((0 : Int)).toNat = 0 from rfl] at hx139_1);(try rw [show 0 * 3 = 0 from rfl] at hx139_1);(try rw [Addr.add_zero'] at hx139_1);(try rw [show ((0 : Int)).toNat = 0 from rfl] at hx139_2);(try rw [show 0 * 3 = 0 from rfl] at hx139_2);(try rw [Addr.add_zero'] at hx139_2);replace hx139_0:=(HB.out.cell (bl_ w _ hx139_0)).trans hx139_0;replace hx139_1:=(HB.out.cell (bl_ w _ hx139_1)).trans hx139_1;replace hx139_2:=(HB.out.cell (bl_ w _ hx139_2)).trans hx139_2;have HR139_2:=am_ hi139_2;have HC139_2:=am_ hl139_2;clear hi139_2 hl139_2;replace p139:=eq_true p139;replace q139:=eq_true q139;have p140 : 0≤(0 : Int):=(by omega)
    have q140 : 0 < (l0.length : Int):=od_ (by first|(with_reducible assumption)|assumption);obtain ⟨ad140,A140_2,c140_2,e140,hx140_0,hx140_1,hx140_2,hl140_2,hi140_2⟩:=at_T30 HR0.out 0 p140 q140;obtain rfl : ad139 = ad140:=(by injection e140)
    have qi140 : (0 < l0.length) = True:=eq_true (by omega);(try rw [show ((0 : Int)).toNat = 0 from rfl] at hx140_0);(try rw [show 0 * 3 = 0 from rfl] at hx140_0);(try rw [Addr.add_zero'] at hx140_0);(try rw [show ((0 : Int)).toNat = 0 from rfl] at hx140_1);(try rw [show 0 * 3 = 0 from rfl] at hx140_1);(try rw [Addr.add_zero'] at hx140_1);(try rw [show ((0 : Int)).toNat = 0 from rfl] at hx140_2);(try rw [show 0 * 3 = 0 from rfl] at hx140_2);(try rw [Addr.add_zero'] at hx140_2);replace hx140_0:=(HB.out.cell (bl_ w _ hx140_0)).trans hx140_0;replace hx140_1:=(HB.out.cell (bl_ w _ hx140_1)).trans hx140_1;replace hx140_2:=(HB.out.cell (bl_ w _ hx140_2)).trans hx140_2;have HR140_2:=am_ hi140_2;have HC140_2:=am_ hl140_2;clear hi140_2 hl140_2;replace p140:=eq_true p140;replace q140:=eq_true q140;have ea_:=Option.some.inj (hx139_2.symm.trans hx140_2)
    injection ea_ with ea_ en_ ec_
    subst ea_;subst ec_;clear en_
    go_wp2_with (first|((with_reducible refine gate_callee (f:=58) rfl ?_);refine goesL_ (some 15) rfl rfl Try.func58 (by kernel_rfl) rfl #[.int .i64 (wrap64 ((rd_T30 l0 0).f0))] rfl (by (try simp only [List.map_toArray,List.map_cons,List.map_nil]);first|done|rfl|(simp only [List.length_drop,List.length_take];rfl)) ?_;(with_reducible refine (spec_l01Edge.calls (wrap64 ((rd_T30 l0 0).f0)) false _ A7.out).mono ?_);rintro e w' ⟨rfl,⟨nd,rfl⟩⟩;refine ⟨_,rfl,?_⟩))
    go_meet
    case rel=>exact ⟨_,(true),(by first|rfl|(simp;done)|(simp [*];done)),H',⟨by first|omega|exact Nat.le_refl _⟩,⟨by (with_reducible repeat (first|apply kN_|apply kD_|apply kA_));exact BK137.out⟩,⟨by (with_reducible repeat (first|apply kN_|apply kD_|apply kA_));exact BK138.out⟩,⟨by repeat (first|(with_reducible first|exact HB.out|apply bA_|apply bN_|apply bD_|refine bS_ ?_ GE137.out|refine bS_ ?_ GE138.out)|exact HB.out)⟩⟩
  ·
   rw [if_neg c6] at H;exact absurd H (by simp)
 case rest =>
  clear HC2;(try clear c1);(try clear p1);(try clear q1);(try clear hx1);(try clear qi1);(try clear p2);(try clear c5);(try clear c6);(try clear c6b0);(try clear c6b1);(try clear p6);(try clear c8);(try clear c10);(try clear hx139_0);(try clear hx139_1);(try clear hx139_2);(try clear hx140_0);(try clear hx140_1);(try clear hx140_2);(try clear hx142_0);(try clear hx142_1);(try clear hx142_2);(try clear hx143_0);(try clear hx143_1);(try clear hx143_2);(try clear hx145_0);(try clear hx145_1);(try clear hx145_2);(try clear hx146_0);(try clear hx146_1);(try clear hx146_2);(try clear p139);(try clear p140);(try clear p142);(try clear p143);(try clear p145);(try clear p146);(try clear q139);(try clear q140);(try clear q142);(try clear q143);(try clear q145);(try clear q146);obtain ⟨kq,x33_1,rfl,HA,HJ1,BK137,BK138,HB⟩:=hcut
  cases kq with
  | zero=>exact absurd HA.out (by simp [spec_l01Lay.j0])
  | succ kj1 =>
   have H:=HA.out;clear HA;simp only [spec_l01Lay.j0] at H
   by_cases c11 : x33_1 = true
   ·
    subst c11;have H1 : (if (arrZ 144).length = 144 then (if (arrZ 144).length = 144 then (some ((arrZ 144),false)) else (none)) else (none)) = some (r1,r2):=by rw [if_pos rfl] at H;exact H
    clear H;have H:=H1;clear H1
    by_cases c12 : (arrZ 144).length = 144
    ·
     rw [if_pos c12] at H;have c12b0:=eq_true c12;have c12b1 : decide ((arrZ 144).length = 144) = true:=decide_eq_true c12;clear c12
     by_cases c13 : (arrZ 144).length = 144
     ·
      rw [if_pos c13] at H;have c13b0:=eq_true c13;have c13b1 : decide ((arrZ 144).length = 144) = true:=decide_eq_true c13;clear c13;simp only [Option.some.injEq,Prod.mk.injEq] at H;obtain ⟨rfl,rfl⟩:=H
      go_wp2_with (first|((with_reducible refine gate_dst (N:=34) rfl ?_);(try (refine gate_guard (by rfl) ?_;dsimp only));refine arr_load (p:=4) (n:=144) (k:=.i64) (g:=gb138) (l:=(arrZ 144)) ?hg (N:=34) ?hd (t:=83) ?ho ?hp (by (with_reducible repeat (first|apply kN_|apply kD_|apply kA_));exact BK138.out) Try.underlying83 (by kernel_rfl) (od_ (by first|(with_reducible assumption)|assumption)) ?_;(case hd=>rfl);(case hg=>rfl);(case ho=>rfl);(case hp=>rfl))|((with_reducible refine gate_store (t:=83) (p:=2) rfl ?_);refine arr_store (p:=2) (v:=?vv_w14) (n:=144) (k:=.i64) (g:=gb137) (l:=(arrZ 144)) (l2:=(arrZ 144)) ?hg ?hn (t:=83) ?ho ?hp ?hv (by (with_reducible repeat (first|apply kN_|apply kD_|apply kA_));exact BK137.out) (by kernel_rfl) (od_ (by first|(with_reducible assumption)|assumption)) (od_ (by first|(with_reducible assumption)|assumption)) ?_;(case ho=>rfl);(case hg=>rfl);(case hn=>rfl);(case hp=>rfl);(case hv=>rfl);intro w14 hg hx;have n0_:=am_ (hx);have n1_:=am_ (blk_grown (g:=gb138) (o:=.cells (arrC .i64 (arrZ 144)) 83 (0,0)) (by (with_reducible repeat (first|apply kN_|apply kD_|apply kA_));exact BK138.out) hg (fun e_=>NB138_137.out (Option.some.inj e_)));have n2_:=am_ (Below.grown (by repeat (first|(with_reducible first|exact HB.out|apply bA_|apply bN_|apply bD_|refine bS_ ?_ GE137.out|refine bS_ ?_ GE138.out)|exact HB.out)) hg (below_size (by repeat (first|(with_reducible first|exact HB.out|apply bA_|apply bN_|apply bD_|refine bS_ ?_ GE137.out|refine bS_ ?_ GE138.out)|exact HB.out))) (fun k_ e_=>by cases e_;exact GE137.out));clear BK137;clear BK138;clear HB;have BK137:=n0_;have BK138:=n1_;have HB:=n2_;clear n0_ n1_ n2_;clear hg hx))
      refine bodyPost_ret (results_ct rfl _ _ gb137 83 (arrC .i64 (arrZ 144)) (0,0) _ rfl (by (with_reducible repeat (first|apply kN_|apply kD_|apply kA_));exact BK137.out) Try.underlying83 rfl (by first|(rw [arrC_size,(od_ (by first|(with_reducible assumption)|assumption) : (arrZ 144).length = 144)];kernel_rfl)|kernel_rfl)) rfl ?_;exact ⟨by first|rfl|(simp [errW_none,errW_some] <;> rfl)|(simp [*,errW_none,errW_some] <;> rfl),by repeat (first|(with_reducible first|exact HB.out|apply bA_|apply bN_|apply bD_|refine bS_ ?_ GE137.out|refine bS_ ?_ GE138.out)|exact HB.out)⟩
     ·
      rw [if_neg c13] at H;exact absurd H (by simp)
    ·
     rw [if_neg c12] at H;exact absurd H (by simp)
   ·
    replace c11:=Bool.eq_false_iff.mpr c11;subst c11;have H1 : (spec_l01Lay.l0 kj1 l0 0 (arrZ 144) (arrZ 144)) = some (r1,r2):=by rw [if_neg (show ¬ (false = true) by decide)] at H;exact H
    clear H;have H:=H1;clear H1;have H':=am_ H;clear H
    go_wp2
    go_loopg [5] kj1 (fun kq v5 w'=>∃ (x5_2 : Int) (x138000_2 : List Int) (x139000_2 : List Int),v5 = .int .i64 x5_2 ∧ Aside0 (spec_l01Lay.l0 kq l0 x5_2 x138000_2 x139000_2 = some (r1,r2)) ∧ Aside0 (kq≤kj1) ∧ Aside0 (w'.heap[gb137]? = some (.cells (arrC .i64 x138000_2) 83 (0,0))) ∧ Aside0 (w'.heap[gb138]? = some (.cells (arrC .i64 x139000_2) 83 (0,0))) ∧ Aside0 (Below w.heap.size w w'))
    case atStart=>exact ⟨(0),((arrZ 144)),((arrZ 144)),(by first|rfl|(simp;done)|(simp [*];done)),H',⟨Nat.le_refl _⟩,⟨by (with_reducible repeat (first|apply kN_|apply kD_|apply kA_));exact BK137.out⟩,⟨by (with_reducible repeat (first|apply kN_|apply kD_|apply kA_));exact BK138.out⟩,⟨by repeat (first|(with_reducible first|exact HB.out|apply bA_|apply bN_|apply bD_|refine bS_ ?_ GE137.out|refine bS_ ?_ GE138.out)|exact HB.out)⟩⟩
    case round =>
     clear H';(try clear c1);(try clear p1);(try clear q1);(try clear hx1);(try clear qi1);(try clear p2);(try clear c5);(try clear c6);(try clear c6b0);(try clear c6b1);(try clear p6);(try clear c8);(try clear c10);(try clear c11);(try clear c12);(try clear c12b0);(try clear c12b1);(try clear c13);(try clear c13b0);(try clear c13b1);(try clear p13);(try clear q13);(try clear hx13);(try clear qi13);(try clear c14);(try clear p14);(try clear q14);(try clear hx14);(try clear qi14);(try clear hx139_0);(try clear hx139_1);(try clear hx139_2);(try clear hx140_0);(try clear hx140_1);(try clear hx140_2);(try clear hx142_0);(try clear hx142_1);(try clear hx142_2);(try clear hx143_0);(try clear hx143_1);(try clear hx143_2);(try clear hx145_0);(try clear hx145_1);(try clear hx145_2);(try clear hx146_0);(try clear hx146_1);(try clear hx146_2);(try clear p1);(try clear p139);(try clear p140);(try clear p142);(try clear p143);(try clear p145);(try clear p146);(try clear p2);(try clear p6);(try clear q1);(try clear q139);(try clear q140);(try clear q142);(try clear q143);(try clear q145);(try clear q146);obtain ⟨x5_2,x138000_2,x139000_2,rfl,HA,HK2,BK137,BK138,HB⟩:=hrel
     cases gk with
     | zero=>exact absurd HA.out (by simp [spec_l01Lay.l0])
     | succ k2 =>
      have H:=HA.out;clear HA;simp only [spec_l01Lay.l0] at H
      by_cases c15 : 0 < (l0.length : Int)
      ·
       rw [if_pos c15] at H;have c15b0 : decide (0 < (l0.length : Int)) = true:=decide_eq_true c15;have c15b1 : decide (0 < l0.length) = true:=decide_eq_true (by omega);clear c15
       by_cases c16 : x5_2 < (((rd_T30 l0 0).f2).length : Int)
       ·
        rw [if_pos c16] at H;have c16b0 : decide (x5_2 < (((rd_T30 l0 0).f2).length : Int)) = true:=decide_eq_true c16;clear c16
        by_cases c17 : 0≤x5_2
        ·
         rw [if_pos c17] at H;have c17b0 : decide (0≤x5_2) = true:=decide_eq_true c17;clear c17;have HC18:=am_ H;clear H;have p147 : 0≤(0 : Int):=(by omega)
         have q147 : 0 < (l0.length : Int):=od_ (by first|(with_reducible assumption)|assumption);obtain ⟨ad147,A147_2,c147_2,e147,hx147_0,hx147_1,hx147_2,hl147_2,hi147_2⟩:=at_T30 HR0.out 0 p147 q147
         cases e147
         have qi147 : (0 < l0.length) = True:=eq_true (by omega);(try rw [show ((0 : Int)).toNat = 0 from rfl] at hx147_0);(try rw [show 0 * 3 = 0 from rfl] at hx147_0);(try rw [Addr.add_zero'] at hx147_0);(try rw [show ((0 : Int)).toNat = 0 from rfl] at hx147_1);(try rw [show 0 * 3 = 0 from rfl] at hx147_1);(try rw [Addr.add_zero'] at hx147_1);(try rw [show ((0 : Int)).toNat = 0 from rfl] at hx147_2);(try rw [show 0 * 3 = 0 from rfl] at hx147_2);(try rw [Addr.add_zero'] at hx147_2);replace hx147_0:=(HB.out.cell (bl_ w _ hx147_0)).trans hx147_0;replace hx147_1:=(HB.out.cell (bl_ w _ hx147_1)).trans hx147_1;replace hx147_2:=(HB.out.cell (bl_ w _ hx147_2)).trans hx147_2;have HR147_2:=am_ hi147_2;have HC147_2:=am_ hl147_2;clear hi147_2 hl147_2;replace p147:=eq_true p147;replace q147:=eq_true q147;have p148 : 0≤(0 : Int):=(by omega)
         have q148 : 0 < (l0.length : Int):=od_ (by first|(with_reducible assumption)|assumption);obtain ⟨ad148,A148_2,c148_2,e148,hx148_0,hx148_1,hx148_2,hl148_2,hi148_2⟩:=at_T30 HR0.out 0 p148 q148;obtain rfl : ad147 = ad148:=(by injection e148)
         have qi148 : (0 < l0.length) = True:=eq_true (by omega);(try rw [show ((0 : Int)).toNat = 0 from rfl] at hx148_0);(try rw [show 0 * 3 = 0 from rfl] at hx148_0);(try rw [Addr.add_zero'] at hx148_0);(try rw [show ((0 : Int)).toNat = 0 from rfl] at hx148_1);(try rw [show 0 * 3 = 0 from rfl] at hx148_1);(try rw [Addr.add_zero'] at hx148_1);(try rw [show ((0 : Int)).toNat = 0 from rfl] at hx148_2);(try rw [show 0 * 3 = 0 from rfl] at hx148_2);(try rw [Addr.add_zero'] at hx148_2);replace hx148_0:=(HB.out.cell (bl_ w _ hx148_0)).trans hx148_0;replace hx148_1:=(HB.out.cell (bl_ w _ hx148_1)).trans hx148_1;replace hx148_2:=(HB.out.cell (bl_ w _ hx148_2)).trans hx148_2;have HR148_2:=am_ hi148_2;have HC148_2:=am_ hl148_2;clear hi148_2 hl148_2;replace p148:=eq_true p148;replace q148:=eq_true q148;have ea_:=Option.some.inj (hx147_2.symm.trans hx148_2)
         injection ea_ with ea_ en_ ec_
         subst ea_;subst ec_;clear en_;have p149 : 0≤(0 : Int):=(by omega)
         have q149 : 0 < (l0.length : Int):=od_ (by first|(with_reducible assumption)|assumption);obtain ⟨ad149,A149_2,c149_2,e149,hx149_0,hx149_1,hx149_2,hl149_2,hi149_2⟩:=at_T30 HR0.out 0 p149 q149;obtain rfl : ad147 = ad149:=(by injection e149)
         have qi149 : (0 < l0.length) = True:=eq_true (by omega);(try rw [show ((0 : Int)).toNat = 0 from rfl] at hx149_0);(try rw [show 0 * 3 = 0 from rfl] at hx149_0);(try rw [Addr.add_zero'] at hx149_0);(try rw [show ((0 : Int)).toNat = 0 from rfl] at hx149_1);(try rw [show 0 * 3 = 0 from rfl] at hx149_1);(try rw [Addr.add_zero'] at hx149_1);(try rw [show ((0 : Int)).toNat = 0 from rfl] at hx149_2);(try rw [show 0 * 3 = 0 from rfl] at hx149_2);(try rw [Addr.add_zero'] at hx149_2);replace hx149_0:=(HB.out.cell (bl_ w _ hx149_0)).trans hx149_0;replace hx149_1:=(HB.out.cell (bl_ w _ hx149_1)).trans hx149_1;replace hx149_2:=(HB.out.cell (bl_ w _ hx149_2)).trans hx149_2;have HR149_2:=am_ hi149_2;have HC149_2:=am_ hl149_2;clear hi149_2 hl149_2;replace p149:=eq_true p149;replace q149:=eq_true q149;have ea_:=Option.some.inj (hx147_2.symm.trans hx149_2)
         injection ea_ with ea_ en_ ec_
         subst ea_;subst ec_;clear en_;have p150 : 0≤(0 : Int):=(by omega)
         have q150 : 0 < (l0.length : Int):=od_ (by first|(with_reducible assumption)|assumption);obtain ⟨ad150,A150_2,c150_2,e150,hx150_0,hx150_1,hx150_2,hl150_2,hi150_2⟩:=at_T30 HR0.out 0 p150 q150;obtain rfl : ad147 = ad150:=(by injection e150)
         have qi150 : (0 < l0.length) = True:=eq_true (by omega);(try rw [show ((0 : Int)).toNat = 0 from rfl] at hx150_0);(try rw [show 0 * 3 = 0 from rfl] at hx150_0);(try rw [Addr.add_zero'] at hx150_0);(try rw [show ((0 : Int)).toNat = 0 from rfl] at hx150_1);(try rw [show 0 * 3 = 0 from rfl] at hx150_1);(try rw [Addr.add_zero'] at hx150_1);(try rw [show ((0 : Int)).toNat = 0 from rfl] at hx150_2);(try rw [show 0 * 3 = 0 from rfl] at hx150_2);(try rw [Addr.add_zero'] at hx150_2);replace hx150_0:=(HB.out.cell (bl_ w _ hx150_0)).trans hx150_0;replace hx150_1:=(HB.out.cell (bl_ w _ hx150_1)).trans hx150_1;replace hx150_2:=(HB.out.cell (bl_ w _ hx150_2)).trans hx150_2;have HR150_2:=am_ hi150_2;have HC150_2:=am_ hl150_2;clear hi150_2 hl150_2;replace p150:=eq_true p150;replace q150:=eq_true q150;have ea_:=Option.some.inj (hx147_2.symm.trans hx150_2)
         injection ea_ with ea_ en_ ec_
         subst ea_;subst ec_;clear en_;have p151 : 0≤(x5_2 : Int):=od_ (by first|(with_reducible assumption)|assumption);have q151 : x5_2 < (((rd_T30 l0 0).f2).length : Int):=od_ (by first|(with_reducible assumption)|assumption);obtain ⟨ad151,e151,hx151_0,hx151_1,hx151_2,hx151_3⟩:=at_T38 HR150_2.out x5_2 p151 q151
         cases e151
         replace hx151_0:=(HB.out.cell (bl_ w _ hx151_0)).trans hx151_0;replace hx151_1:=(HB.out.cell (bl_ w _ hx151_1)).trans hx151_1;replace hx151_2:=(HB.out.cell (bl_ w _ hx151_2)).trans hx151_2;replace hx151_3:=(HB.out.cell (bl_ w _ hx151_3)).trans hx151_3;replace p151:=eq_true p151;replace q151:=eq_true q151
         go_upto_region 8 with (first|((with_reducible refine gate_dst (N:=6) rfl ?_);(try (refine gate_guard (by rfl) ?_;dsimp only));refine box_event ?hg (N:=6) ?hd (cs:=#[.int .i8 0,.int .i8 0,.int .i8 0,.int .i8 0]) (t:=38) ?hr ?_;(case hd=>rfl);(case hg=>rfl);(case hr=>first|(go_simp;done)|(go_simp;rfl));intro gb152 hg w19 hbox hb;have n0_:=am_ (blk_below (g:=gb137) (o:=.cells (arrC .i64 x138000_2) 83 (0,0)) (by (with_reducible repeat (first|apply kN_|apply kD_|apply kA_));exact BK137.out) hb);have n1_:=am_ (blk_below (g:=gb138) (o:=.cells (arrC .i64 x139000_2) 83 (0,0)) (by (with_reducible repeat (first|apply kN_|apply kD_|apply kA_));exact BK138.out) hb);have n2_:=am_ (bT_ (by repeat (first|(with_reducible first|exact HB.out|apply bA_|apply bN_|apply bD_|refine bS_ ?_ GE137.out|refine bS_ ?_ GE138.out)|exact HB.out)) hb);have n3_:=am_ (hbox);have n4_:=am_ ((by rw [hg];exact (below_size (by repeat (first|(with_reducible first|exact HB.out|apply bA_|apply bN_|apply bD_|refine bS_ ?_ GE137.out|refine bS_ ?_ GE138.out)|exact HB.out))) : w.heap.size≤gb152));have n5_:=n4_;have n6_:=am_ ((by rw [hg];exact Nat.ne_of_lt (blk_lt (g:=gb137) (o:=.cells (arrC .i64 x138000_2) 83 (0,0)) (by (with_reducible repeat (first|apply kN_|apply kD_|apply kA_));exact BK137.out)) : gb137 ≠ gb152));have n7_:=am_ ((by rw [hg];exact Nat.ne_of_gt (blk_lt (g:=gb137) (o:=.cells (arrC .i64 x138000_2) 83 (0,0)) (by (with_reducible repeat (first|apply kN_|apply kD_|apply kA_));exact BK137.out)) : gb152 ≠ gb137));have n8_:=am_ ((by rw [hg];exact Nat.ne_of_lt (blk_lt (g:=gb138) (o:=.cells (arrC .i64 x139000_2) 83 (0,0)) (by (with_reducible repeat (first|apply kN_|apply kD_|apply kA_));exact BK138.out)) : gb138 ≠ gb152));have n9_:=am_ ((by rw [hg];exact Nat.ne_of_gt (blk_lt (g:=gb138) (o:=.cells (arrC .i64 x139000_2) 83 (0,0)) (by (with_reducible repeat (first|apply kN_|apply kD_|apply kA_));exact BK138.out)) : gb152 ≠ gb138));clear BK137;clear BK138;clear HB;have BK137:=n0_;have BK138:=n1_;have HB:=n2_;have BK152:=n3_;have GW152:=n4_;have GE152:=n5_;have NB137_152:=n6_;have NB152_137:=n7_;have NB138_152:=n8_;have NB152_138:=n9_;clear n0_ n1_ n2_ n3_ n4_ n5_ n6_ n7_ n8_ n9_;clear hb hbox hg;have hnb20:=NB152_137.out;have hnc20:=NB137_152.out;have hnb21:=NB152_138.out;have hnc21:=NB138_152.out;have hcz22_0 : w19.cell? ⟨gb152,0,none⟩ = some (.int .i8 0):=(kC_ BK152.out 0).trans rfl;have hcz22_1 : w19.cell? ⟨gb152,1,none⟩ = some (.int .i8 0):=(kC_ BK152.out 1).trans rfl;have hcz22_2 : w19.cell? ⟨gb152,2,none⟩ = some (.int .i8 0):=(kC_ BK152.out 2).trans rfl;have hcz22_3 : w19.cell? ⟨gb152,3,none⟩ = some (.int .i8 0):=(kC_ BK152.out 3).trans rfl;have hfz22_0:=kF_ BK152.out 0;have hfz22_1:=kF_ BK152.out 1;have hfz22_2:=kF_ BK152.out 2;have hfz22_3:=kF_ BK152.out 3))
         (try simp only [Act.put,z1_,z2_,z3_])
         go_cut [71] (fun v71 wc=>∃ (kq : Nat) (x71_17 : Bool),v71 = .bool x71_17 ∧ Aside0 (spec_l01Lay.j2 kq l0 x5_2 x71_17 x138000_2 x139000_2 ((rd_T38 ((rd_T30 l0 0).f2) x5_2).f0) ((rd_T38 ((rd_T30 l0 0).f2) x5_2).f1) ((rd_T38 ((rd_T30 l0 0).f2) x5_2).f2) ((rd_T38 ((rd_T30 l0 0).f2) x5_2).f3) = some (r1,r2)) ∧ Aside0 (kq≤k2) ∧ Aside0 (wc.heap[gb137]? = some (.cells (arrC .i64 x138000_2) 83 (0,0))) ∧ Aside0 (wc.heap[gb138]? = some (.cells (arrC .i64 x139000_2) 83 (0,0))) ∧ Aside0 (wc.heap[gb152]? = some (.cells #[.int .i8 ((rd_T38 ((rd_T30 l0 0).f2) x5_2).f0),.int .i8 ((rd_T38 ((rd_T30 l0 0).f2) x5_2).f1),.int .i8 ((rd_T38 ((rd_T30 l0 0).f2) x5_2).f2),.int .i8 ((rd_T38 ((rd_T30 l0 0).f2) x5_2).f3)] 38 (0,0))) ∧ Aside0 (Below w.heap.size w wc))
         case first =>
          have H:=HC18.out;clear HC18;replace H:=Option.bind_eq_some_iff.mp H;obtain ⟨t153,A230,H⟩:=H;replace H : (if t153 = true then (if x5_2 > 0 then (if 0≤(wrap64 (x5_2 - 1)) then (if (wrap64 (x5_2 - 1)) < (((rd_T30 l0 0).f2).length : Int) then ((spec_l01Before.f ((rd_T38 ((rd_T30 l0 0).f2) (wrap64 (x5_2 - 1))).f0) ((rd_T38 ((rd_T30 l0 0).f2) (wrap64 (x5_2 - 1))).f1) ((rd_T38 ((rd_T30 l0 0).f2) (wrap64 (x5_2 - 1))).f2) ((rd_T38 ((rd_T30 l0 0).f2) (wrap64 (x5_2 - 1))).f3) ((rd_T38 ((rd_T30 l0 0).f2) x5_2).f0) ((rd_T38 ((rd_T30 l0 0).f2) x5_2).f1) ((rd_T38 ((rd_T30 l0 0).f2) x5_2).f2) ((rd_T38 ((rd_T30 l0 0).f2) x5_2).f3)).bind fun t157=>(spec_l01Lay.j2 k2 l0 x5_2 (!t157) x138000_2 x139000_2 ((rd_T38 ((rd_T30 l0 0).f2) x5_2).f0) ((rd_T38 ((rd_T30 l0 0).f2) x5_2).f1) ((rd_T38 ((rd_T30 l0 0).f2) x5_2).f2) ((rd_T38 ((rd_T30 l0 0).f2) x5_2).f3))) else (none)) else (none)) else (spec_l01Lay.j2 k2 l0 x5_2 false x138000_2 x139000_2 ((rd_T38 ((rd_T30 l0 0).f2) x5_2).f0) ((rd_T38 ((rd_T30 l0 0).f2) x5_2).f1) ((rd_T38 ((rd_T30 l0 0).f2) x5_2).f2) ((rd_T38 ((rd_T30 l0 0).f2) x5_2).f3))) else (spec_l01Lay.j2 k2 l0 x5_2 true x138000_2 x139000_2 ((rd_T38 ((rd_T30 l0 0).f2) x5_2).f0) ((rd_T38 ((rd_T30 l0 0).f2) x5_2).f1) ((rd_T38 ((rd_T30 l0 0).f2) x5_2).f2) ((rd_T38 ((rd_T30 l0 0).f2) x5_2).f3))) = some (r1,r2):=H;have A23:=am_ A230;clear A230
          by_cases c24 : t153 = true
          ·
           subst c24;have H1 : (if x5_2 > 0 then (if 0≤(wrap64 (x5_2 - 1)) then (if (wrap64 (x5_2 - 1)) < (((rd_T30 l0 0).f2).length : Int) then ((spec_l01Before.f ((rd_T38 ((rd_T30 l0 0).f2) (wrap64 (x5_2 - 1))).f0) ((rd_T38 ((rd_T30 l0 0).f2) (wrap64 (x5_2 - 1))).f1) ((rd_T38 ((rd_T30 l0 0).f2) (wrap64 (x5_2 - 1))).f2) ((rd_T38 ((rd_T30 l0 0).f2) (wrap64 (x5_2 - 1))).f3) ((rd_T38 ((rd_T30 l0 0).f2) x5_2).f0) ((rd_T38 ((rd_T30 l0 0).f2) x5_2).f1) ((rd_T38 ((rd_T30 l0 0).f2) x5_2).f2) ((rd_T38 ((rd_T30 l0 0).f2) x5_2).f3)).bind fun t157=>(spec_l01Lay.j2 k2 l0 x5_2 (!t157) x138000_2 x139000_2 ((rd_T38 ((rd_T30 l0 0).f2) x5_2).f0) ((rd_T38 ((rd_T30 l0 0).f2) x5_2).f1) ((rd_T38 ((rd_T30 l0 0).f2) x5_2).f2) ((rd_T38 ((rd_T30 l0 0).f2) x5_2).f3))) else (none)) else (none)) else (spec_l01Lay.j2 k2 l0 x5_2 false x138000_2 x139000_2 ((rd_T38 ((rd_T30 l0 0).f2) x5_2).f0) ((rd_T38 ((rd_T30 l0 0).f2) x5_2).f1) ((rd_T38 ((rd_T30 l0 0).f2) x5_2).f2) ((rd_T38 ((rd_T30 l0 0).f2) x5_2).f3))) = some (r1,r2):=by rw [if_pos rfl] at H;exact H
           clear H;have H:=H1;clear H1
           by_cases c25 : x5_2 > 0
           ·
            rw [if_pos c25] at H;have c25b0 : decide (0 < x5_2) = true:=decide_eq_true c25;clear c25
            (first|rw [c25b0]|(simp only [i64_w,i32_w];rw [c25b0])|skip)
            obtain ⟨ji26,hji26⟩ : ∃ j_ : Int,(wrap64 (x5_2 - 1)) = j_:=⟨_,rfl⟩
            replace H : (if 0≤(ji26) then (if (ji26) < (((rd_T30 l0 0).f2).length : Int) then ((spec_l01Before.f ((rd_T38 ((rd_T30 l0 0).f2) (ji26)).f0) ((rd_T38 ((rd_T30 l0 0).f2) (ji26)).f1) ((rd_T38 ((rd_T30 l0 0).f2) (ji26)).f2) ((rd_T38 ((rd_T30 l0 0).f2) (ji26)).f3) ((rd_T38 ((rd_T30 l0 0).f2) x5_2).f0) ((rd_T38 ((rd_T30 l0 0).f2) x5_2).f1) ((rd_T38 ((rd_T30 l0 0).f2) x5_2).f2) ((rd_T38 ((rd_T30 l0 0).f2) x5_2).f3)).bind fun t157=>(spec_l01Lay.j2 k2 l0 x5_2 (!t157) x138000_2 x139000_2 ((rd_T38 ((rd_T30 l0 0).f2) x5_2).f0) ((rd_T38 ((rd_T30 l0 0).f2) x5_2).f1) ((rd_T38 ((rd_T30 l0 0).f2) x5_2).f2) ((rd_T38 ((rd_T30 l0 0).f2) x5_2).f3))) else (none)) else (none)) = some (r1,r2):=by first|(rw [hji26] at H;exact H)|(simp only [hji26] at H ⊢;exact H)
            (try rw [hji26] at A23);have hji26w : (IntKind.i64.wrap (x5_2 - 1)) = ji26:=(i64_w _).trans hji26
            by_cases c27 : 0≤(ji26)
            ·
             rw [if_pos c27] at H;have c27b0 : decide (0≤(ji26)) = true:=decide_eq_true c27;clear c27
             by_cases c28 : (ji26) < (((rd_T30 l0 0).f2).length : Int)
             ·
              rw [if_pos c28] at H;have c28b0 : decide ((ji26) < (((rd_T30 l0 0).f2).length : Int)) = true:=decide_eq_true c28;clear c28;replace H:=Option.bind_eq_some_iff.mp H;obtain ⟨t157,A290,H⟩:=H;replace H : (spec_l01Lay.j2 k2 l0 x5_2 (!t157) x138000_2 x139000_2 ((rd_T38 ((rd_T30 l0 0).f2) x5_2).f0) ((rd_T38 ((rd_T30 l0 0).f2) x5_2).f1) ((rd_T38 ((rd_T30 l0 0).f2) x5_2).f2) ((rd_T38 ((rd_T30 l0 0).f2) x5_2).f3)) = some (r1,r2):=H;have A29:=am_ A290;clear A290;have H':=am_ H;clear H
              try go_wp2
              have n0_ : Aside0 (((((w19.setCell ⟨gb152,0,none⟩ (.int .i8 ((rd_T38 ((rd_T30 l0 0).f2) x5_2).f0))).setCell ⟨gb152,1,none⟩ (.int .i8 ((rd_T38 ((rd_T30 l0 0).f2) x5_2).f1))).setCell ⟨gb152,2,none⟩ (.int .i8 ((rd_T38 ((rd_T30 l0 0).f2) x5_2).f2))).setCell ⟨gb152,3,none⟩ (.int .i8 ((rd_T38 ((rd_T30 l0 0).f2) x5_2).f3))).heap[gb137]? = some (.cells (arrC .i64 x138000_2) 83 (0,0))):=⟨by (with_reducible repeat (first|apply kN_|apply kD_|apply kA_));refine blk_far ?_ NB137_152.out _;(with_reducible repeat (first|apply kN_|apply kD_|apply kA_));refine blk_far ?_ NB137_152.out _;(with_reducible repeat (first|apply kN_|apply kD_|apply kA_));refine blk_far ?_ NB137_152.out _;(with_reducible repeat (first|apply kN_|apply kD_|apply kA_));refine blk_far ?_ NB137_152.out _;(with_reducible repeat (first|apply kN_|apply kD_|apply kA_));exact BK137.out⟩
              have n1_ : Aside0 (((((w19.setCell ⟨gb152,0,none⟩ (.int .i8 ((rd_T38 ((rd_T30 l0 0).f2) x5_2).f0))).setCell ⟨gb152,1,none⟩ (.int .i8 ((rd_T38 ((rd_T30 l0 0).f2) x5_2).f1))).setCell ⟨gb152,2,none⟩ (.int .i8 ((rd_T38 ((rd_T30 l0 0).f2) x5_2).f2))).setCell ⟨gb152,3,none⟩ (.int .i8 ((rd_T38 ((rd_T30 l0 0).f2) x5_2).f3))).heap[gb138]? = some (.cells (arrC .i64 x139000_2) 83 (0,0))):=⟨by (with_reducible repeat (first|apply kN_|apply kD_|apply kA_));refine blk_far ?_ NB138_152.out _;(with_reducible repeat (first|apply kN_|apply kD_|apply kA_));refine blk_far ?_ NB138_152.out _;(with_reducible repeat (first|apply kN_|apply kD_|apply kA_));refine blk_far ?_ NB138_152.out _;(with_reducible repeat (first|apply kN_|apply kD_|apply kA_));refine blk_far ?_ NB138_152.out _;(with_reducible repeat (first|apply kN_|apply kD_|apply kA_));exact BK138.out⟩
              have n2_ : Aside0 (((((w19.setCell ⟨gb152,0,none⟩ (.int .i8 ((rd_T38 ((rd_T30 l0 0).f2) x5_2).f0))).setCell ⟨gb152,1,none⟩ (.int .i8 ((rd_T38 ((rd_T30 l0 0).f2) x5_2).f1))).setCell ⟨gb152,2,none⟩ (.int .i8 ((rd_T38 ((rd_T30 l0 0).f2) x5_2).f2))).setCell ⟨gb152,3,none⟩ (.int .i8 ((rd_T38 ((rd_T30 l0 0).f2) x5_2).f3))).heap[gb152]? = some (.cells #[.int .i8 ((rd_T38 ((rd_T30 l0 0).f2) x5_2).f0),.int .i8 ((rd_T38 ((rd_T30 l0 0).f2) x5_2).f1),.int .i8 ((rd_T38 ((rd_T30 l0 0).f2) x5_2).f2),.int .i8 ((rd_T38 ((rd_T30 l0 0).f2) x5_2).f3)] 38 (0,0))):=⟨by (with_reducible repeat (first|apply kN_|apply kD_|apply kA_));refine blk_put (cs:=#[.int .i8 ((rd_T38 ((rd_T30 l0 0).f2) x5_2).f0),.int .i8 ((rd_T38 ((rd_T30 l0 0).f2) x5_2).f1),.int .i8 ((rd_T38 ((rd_T30 l0 0).f2) x5_2).f2),.int .i8 0]) ?_ 3 _ rfl;(with_reducible repeat (first|apply kN_|apply kD_|apply kA_));refine blk_put (cs:=#[.int .i8 ((rd_T38 ((rd_T30 l0 0).f2) x5_2).f0),.int .i8 ((rd_T38 ((rd_T30 l0 0).f2) x5_2).f1),.int .i8 0,.int .i8 0]) ?_ 2 _ rfl;(with_reducible repeat (first|apply kN_|apply kD_|apply kA_));refine blk_put (cs:=#[.int .i8 ((rd_T38 ((rd_T30 l0 0).f2) x5_2).f0),.int .i8 0,.int .i8 0,.int .i8 0]) ?_ 1 _ rfl;(with_reducible repeat (first|apply kN_|apply kD_|apply kA_));refine blk_put (cs:=#[.int .i8 0,.int .i8 0,.int .i8 0,.int .i8 0]) ?_ 0 _ rfl;(with_reducible repeat (first|apply kN_|apply kD_|apply kA_));exact BK152.out⟩
              have n3_ : Aside0 (Below w.heap.size w ((((w19.setCell ⟨gb152,0,none⟩ (.int .i8 ((rd_T38 ((rd_T30 l0 0).f2) x5_2).f0))).setCell ⟨gb152,1,none⟩ (.int .i8 ((rd_T38 ((rd_T30 l0 0).f2) x5_2).f1))).setCell ⟨gb152,2,none⟩ (.int .i8 ((rd_T38 ((rd_T30 l0 0).f2) x5_2).f2))).setCell ⟨gb152,3,none⟩ (.int .i8 ((rd_T38 ((rd_T30 l0 0).f2) x5_2).f3)))):=⟨by repeat (first|(with_reducible first|exact HB.out|apply bA_|apply bN_|apply bD_|refine bS_ ?_ GE137.out|refine bS_ ?_ GE138.out|refine bS_ ?_ GE152.out)|exact HB.out)⟩
              (try clear BK137);(try clear BK138);(try clear BK152);(try clear HB);generalize ((((w19.setCell ⟨gb152,0,none⟩ (.int .i8 ((rd_T38 ((rd_T30 l0 0).f2) x5_2).f0))).setCell ⟨gb152,1,none⟩ (.int .i8 ((rd_T38 ((rd_T30 l0 0).f2) x5_2).f1))).setCell ⟨gb152,2,none⟩ (.int .i8 ((rd_T38 ((rd_T30 l0 0).f2) x5_2).f2))).setCell ⟨gb152,3,none⟩ (.int .i8 ((rd_T38 ((rd_T30 l0 0).f2) x5_2).f3))) = w30 at n0_ n1_ n2_ n3_ ⊢;have BK137:=n0_;have BK138:=n1_;have BK152:=n2_;have HB:=n3_;clear n0_ n1_ n2_ n3_;have n0_:=am_ (kD_ BK137.out);have n1_:=am_ (kD_ BK138.out);have n2_:=am_ (kD_ BK152.out);have n3_:=am_ (bD_ HB.out);clear BK137;clear BK138;clear BK152;clear HB;have BK137:=n0_;have BK138:=n1_;have BK152:=n2_;have HB:=n3_;clear n0_ n1_ n2_ n3_;have p154 : 0≤(0 : Int):=(by omega)
              have q154 : 0 < (l0.length : Int):=od_ (by first|(with_reducible assumption)|assumption);obtain ⟨ad154,A154_2,c154_2,e154,hx154_0,hx154_1,hx154_2,hl154_2,hi154_2⟩:=at_T30 HR0.out 0 p154 q154;have hw154_2:=hx154_2;(try rw [show ((0 : Int)).toNat = 0 from rfl] at hw154_2);(try rw [show 0 * 3 = 0 from rfl] at hw154_2);(try rw [Addr.add_zero'] at hw154_2);have hw154_1:=hx154_1;(try rw [show ((0 : Int)).toNat = 0 from rfl] at hw154_1);(try rw [show 0 * 3 = 0 from rfl] at hw154_1);(try rw [Addr.add_zero'] at hw154_1);have hw154_0:=hx154_0;(try rw [show ((0 : Int)).toNat = 0 from rfl] at hw154_0);(try rw [show 0 * 3 = 0 from rfl] at hw154_0);(try rw [Addr.add_zero'] at hw154_0);obtain rfl : ad147 = ad154:=(by injection e154)
              have qi154 : (0 < l0.length) = True:=eq_true (by omega);(try rw [show ((0 : Int)).toNat = 0 from rfl] at hx154_0);(try rw [show 0 * 3 = 0 from rfl] at hx154_0);(try rw [Addr.add_zero'] at hx154_0);(try rw [show ((0 : Int)).toNat = 0 from rfl] at hx154_1);(try rw [show 0 * 3 = 0 from rfl] at hx154_1);(try rw [Addr.add_zero'] at hx154_1);(try rw [show ((0 : Int)).toNat = 0 from rfl] at hx154_2);(try rw [show 0 * 3 = 0 from rfl] at hx154_2);(try rw [Addr.add_zero'] at hx154_2);replace hx154_0:=(HB.out.cell (bl_ w _ hx154_0)).trans hx154_0;replace hx154_1:=(HB.out.cell (bl_ w _ hx154_1)).trans hx154_1;replace hx154_2:=(HB.out.cell (bl_ w _ hx154_2)).trans hx154_2;have HR154_2:=am_ hi154_2;have HC154_2:=am_ hl154_2;clear hi154_2 hl154_2;replace p154:=eq_true p154;replace q154:=eq_true q154;have p155 : 0≤(0 : Int):=(by omega)
              have q155 : 0 < (l0.length : Int):=od_ (by first|(with_reducible assumption)|assumption);obtain ⟨ad155,A155_2,c155_2,e155,hx155_0,hx155_1,hx155_2,hl155_2,hi155_2⟩:=at_T30 HR0.out 0 p155 q155;have hw155_2:=hx155_2;(try rw [show ((0 : Int)).toNat = 0 from rfl] at hw155_2);(try rw [show 0 * 3 = 0 from rfl] at hw155_2);(try rw [Addr.add_zero'] at hw155_2);have hw155_1:=hx155_1;(try rw [show ((0 : Int)).toNat = 0 from rfl] at hw155_1);(try rw [show 0 * 3 = 0 from rfl] at hw155_1);(try rw [Addr.add_zero'] at hw155_1);have hw155_0:=hx155_0;(try rw [show ((0 : Int)).toNat = 0 from rfl] at hw155_0);(try rw [show 0 * 3 = 0 from rfl] at hw155_0);(try rw [Addr.add_zero'] at hw155_0);obtain rfl : ad147 = ad155:=(by injection e155)
              have qi155 : (0 < l0.length) = True:=eq_true (by omega);(try rw [show ((0 : Int)).toNat = 0 from rfl] at hx155_0);(try rw [show 0 * 3 = 0 from rfl] at hx155_0);(try rw [Addr.add_zero'] at hx155_0);(try rw [show ((0 : Int)).toNat = 0 from rfl] at hx155_1);(try rw [show 0 * 3 = 0 from rfl] at hx155_1);(try rw [Addr.add_zero'] at hx155_1);(try rw [show ((0 : Int)).toNat = 0 from rfl] at hx155_2);(try rw [show 0 * 3 = 0 from rfl] at hx155_2);(try rw [Addr.add_zero'] at hx155_2);replace hx155_0:=(HB.out.cell (bl_ w _ hx155_0)).trans hx155_0;replace hx155_1:=(HB.out.cell (bl_ w _ hx155_1)).trans hx155_1;replace hx155_2:=(HB.out.cell (bl_ w _ hx155_2)).trans hx155_2;have HR155_2:=am_ hi155_2;have HC155_2:=am_ hl155_2;clear hi155_2 hl155_2;replace p155:=eq_true p155;replace q155:=eq_true q155;have ea_:=Option.some.inj (hx154_2.symm.trans hx155_2)
              injection ea_ with ea_ en_ ec_
              subst ea_;subst ec_;clear en_;have p156 : 0≤((ji26) : Int):=od_ (by first|(with_reducible assumption)|assumption);have q156 : (ji26) < (((rd_T30 l0 0).f2).length : Int):=od_ (by first|(with_reducible assumption)|assumption);obtain ⟨ad156,e156,hx156_0,hx156_1,hx156_2,hx156_3⟩:=at_T38 HR155_2.out (ji26) p156 q156;have hw156_3:=hx156_3;have hw156_2:=hx156_2;have hw156_1:=hx156_1;have hw156_0:=hx156_0
              cases e156
              replace hx156_0:=(HB.out.cell (bl_ w _ hx156_0)).trans hx156_0;replace hx156_1:=(HB.out.cell (bl_ w _ hx156_1)).trans hx156_1;replace hx156_2:=(HB.out.cell (bl_ w _ hx156_2)).trans hx156_2;replace hx156_3:=(HB.out.cell (bl_ w _ hx156_3)).trans hx156_3;replace p156:=eq_true p156;replace q156:=eq_true q156;refine start_ (n:=21) (S:=fun w'=>w'.cell? ⟨gb152,0,none⟩ = some (.int .i8 ((rd_T38 ((rd_T30 l0 0).f2) x5_2).f0)) ∧ w'.cell? ⟨gb152,1,none⟩ = some (.int .i8 ((rd_T38 ((rd_T30 l0 0).f2) x5_2).f1)) ∧ w'.cell? ⟨gb152,2,none⟩ = some (.int .i8 ((rd_T38 ((rd_T30 l0 0).f2) x5_2).f2)) ∧ w'.cell? ⟨gb152,3,none⟩ = some (.int .i8 ((rd_T38 ((rd_T30 l0 0).f2) x5_2).f3)) ∧ w'.cell? ad147 = some (.int .i8 ((rd_T30 l0 0).f0)) ∧ w'.cell? ⟨ad147.block,ad147.off + 1,none⟩ = some (.int .i8 ((rd_T30 l0 0).f1)) ∧ w'.cell? ⟨ad147.block,ad147.off + 2,none⟩ = some (.slice (some ad156) ((rd_T30 l0 0).f2).length c154_2) ∧ w'.cell? ad147 = some (.int .i8 ((rd_T30 l0 0).f0)) ∧ w'.cell? ⟨ad147.block,ad147.off + 1,none⟩ = some (.int .i8 ((rd_T30 l0 0).f1)) ∧ w'.cell? ⟨ad147.block,ad147.off + 2,none⟩ = some (.slice (some ad156) ((rd_T30 l0 0).f2).length c154_2) ∧ w'.cell? (ad156.add (((ji26)).toNat * 4)) = some (.int .i8 ((rd_T38 ((rd_T30 l0 0).f2) (ji26)).f0)) ∧ w'.cell? ⟨(ad156.add (((ji26)).toNat * 4)).block,(ad156.add (((ji26)).toNat * 4)).off + 1,none⟩ = some (.int .i8 ((rd_T38 ((rd_T30 l0 0).f2) (ji26)).f1)) ∧ w'.cell? ⟨(ad156.add (((ji26)).toNat * 4)).block,(ad156.add (((ji26)).toNat * 4)).off + 2,none⟩ = some (.int .i8 ((rd_T38 ((rd_T30 l0 0).f2) (ji26)).f2)) ∧ w'.cell? ⟨(ad156.add (((ji26)).toNat * 4)).block,(ad156.add (((ji26)).toNat * 4)).off + 3,none⟩ = some (.int .i8 ((rd_T38 ((rd_T30 l0 0).f2) (ji26)).f3))) (ds:=[]) (mB_ 21 0) (by kernel_rfl) rfl rfl ⟨(kC_ BK152.out 0).trans rfl,(kC_ BK152.out 1).trans rfl,(kC_ BK152.out 2).trans rfl,(kC_ BK152.out 3).trans rfl,((HB.out.cell (bl_ w _ hw154_0)).trans hw154_0),((HB.out.cell (bl_ w _ hw154_1)).trans hw154_1),((HB.out.cell (bl_ w _ hw154_2)).trans hw154_2),((HB.out.cell (bl_ w _ hw155_0)).trans hw155_0),((HB.out.cell (bl_ w _ hw155_1)).trans hw155_1),((HB.out.cell (bl_ w _ hw155_2)).trans hw155_2),((HB.out.cell (bl_ w _ hw156_0)).trans hw156_0),((HB.out.cell (bl_ w _ hw156_1)).trans hw156_1),((HB.out.cell (bl_ w _ hw156_2)).trans hw156_2),((HB.out.cell (bl_ w _ hw156_3)).trans hw156_3)⟩ (fun hHeld=>?_);refine with_tabW spec_l01Lay.tab8 spec_l01Lay.bits8 (fun HT_ HW_=>?_);generalize w30.drew = w31 at BK137 BK138 BK152 HB HR154_2 HR155_2 hx154_0 hx154_1 hx154_2 hx155_0 hx155_1 hx155_2 hx156_0 hx156_1 hx156_2 hx156_3 hHeld ⊢;refine pure_ (i:=0) (N:=some 51) (v:=?_) (a':=?_) (mB_ 21 1) rfl rfl (any_of HT_.out (by kernel_rfl)) (fun _ _ _ h=>h) (Or.inl ⟨by rfl,?_⟩) ?_ ?_;rotate_left
              ·
               intro w'
               go_simp
               with_reducible rfl
              rotate_left
              ·
               simp only [Act.put,z1_,z2_,z3_,i64_w,i32_w]
               rfl
              refine take_ (i:=1) (N:=some 52) (v:=?_) (a':=?_) (mB_ 21 3) rfl rfl (take_ofW HT_.out HW_.out (by kernel_rfl)) (fun _ _ _ h=>h) (Or.inl ⟨by rfl,?_⟩) hHeld ?_ ?_;rotate_left
              ·
               rintro w' ⟨s0,s1,s2,s3,s4,s5,s6,s7,s8,s9,s10,s11,s12,s13⟩
               go_simp
               with_reducible rfl
              rotate_left
              ·
               simp only [Act.put,z1_,z2_,z3_,i64_w,i32_w]
               rfl
              refine one_ (i:=2) (N:=some 53) (mB_ 21 7) rfl rfl (one_of HT_.out (by kernel_rfl)) (by decide) (fun K hK=>?_);refine goes_ Try.func78 (by kernel_rfl) rfl #[.pointer (some ad147),.agg #[.int .i8 ((rd_T38 ((rd_T30 l0 0).f2) x5_2).f0),.int .i8 ((rd_T38 ((rd_T30 l0 0).f2) x5_2).f1),.int .i8 ((rd_T38 ((rd_T30 l0 0).f2) x5_2).f2),.int .i8 ((rd_T38 ((rd_T30 l0 0).f2) x5_2).f3)]] (by rfl) rfl rfl (by (try simp only [List.map_toArray,List.map_cons,List.map_nil]);first|done|rfl|(simp only [List.length_drop,List.length_take];rfl)) ?_
              with_reducible refine (spec_l01Lies.calls _ c0 l0 ((rd_T38 ((rd_T30 l0 0).f2) x5_2).f0) ((rd_T38 ((rd_T30 l0 0).f2) x5_2).f1) ((rd_T38 ((rd_T30 l0 0).f2) x5_2).f2) ((rd_T38 ((rd_T30 l0 0).f2) x5_2).f3) true _ ?side1 ?side2 A23.out).mono ?_
              (case side1=>repeat (first|exact (Kd.C_below HR0.out HB.out)|(with_reducible refine Kd.C_alloc ?_ _)|(with_reducible refine Kd.C_drewN ?_ _)|(with_reducible refine Kd.C_drew ?_)))
              (case side2=>exact HC0.out)
              rintro e w32 ⟨rfl,hb⟩;refine ⟨_,rfl,?_⟩;have n0_:=am_ (blk_below (g:=gb137) (o:=.cells (arrC .i64 x138000_2) 83 (0,0)) (by (with_reducible repeat (first|apply kN_|apply kD_|apply kA_));exact BK137.out) hb);have n1_:=am_ (blk_below (g:=gb138) (o:=.cells (arrC .i64 x139000_2) 83 (0,0)) (by (with_reducible repeat (first|apply kN_|apply kD_|apply kA_));exact BK138.out) hb);have n2_:=am_ (blk_below (g:=gb152) (o:=.cells #[.int .i8 ((rd_T38 ((rd_T30 l0 0).f2) x5_2).f0),.int .i8 ((rd_T38 ((rd_T30 l0 0).f2) x5_2).f1),.int .i8 ((rd_T38 ((rd_T30 l0 0).f2) x5_2).f2),.int .i8 ((rd_T38 ((rd_T30 l0 0).f2) x5_2).f3)] 38 (0,0)) (by (with_reducible repeat (first|apply kN_|apply kD_|apply kA_));exact BK152.out) hb);have n3_:=am_ (bT_ (by repeat (first|(with_reducible first|exact HB.out|apply bA_|apply bN_|apply bD_|refine bS_ ?_ GE137.out|refine bS_ ?_ GE138.out|refine bS_ ?_ GE152.out)|exact HB.out)) hb);clear BK137;clear BK138;clear BK152;clear HB;have BK137:=n0_;have BK138:=n1_;have BK152:=n2_;have HB:=n3_;clear n0_ n1_ n2_ n3_;(try clear hb);(try clear hb2);(try clear hk);(try clear hi);refine hK.out _ _ ⟨(kC_ BK152.out 0).trans rfl,(kC_ BK152.out 1).trans rfl,(kC_ BK152.out 2).trans rfl,(kC_ BK152.out 3).trans rfl,((HB.out.cell (bl_ w _ hw154_0)).trans hw154_0),((HB.out.cell (bl_ w _ hw154_1)).trans hw154_1),((HB.out.cell (bl_ w _ hw154_2)).trans hw154_2),((HB.out.cell (bl_ w _ hw155_0)).trans hw155_0),((HB.out.cell (bl_ w _ hw155_1)).trans hw155_1),((HB.out.cell (bl_ w _ hw155_2)).trans hw155_2),((HB.out.cell (bl_ w _ hw156_0)).trans hw156_0),((HB.out.cell (bl_ w _ hw156_1)).trans hw156_1),((HB.out.cell (bl_ w _ hw156_2)).trans hw156_2),((HB.out.cell (bl_ w _ hw156_3)).trans hw156_3)⟩ (fun hHeld=>?_);clear hK K;refine norm_ (a':=?_) ?_ ?_;rotate_left
              ·
               show Act.put _ (some 53) _ = _
               simp only [Act.put,z1_,z2_,z3_,i64_w,i32_w]
               rfl
              refine pure_ (i:=3) (N:=some 54) (v:=?_) (a':=?_) (mB_ 21 15) rfl rfl (any_of HT_.out (by kernel_rfl)) (fun _ _ _ h=>h) (Or.inl ⟨by rfl,?_⟩) ?_ ?_;rotate_left
              ·
               intro w'
               go_simp
               with_reducible rfl
              rotate_left
              ·
               simp only [Act.put,z1_,z2_,z3_,i64_w,i32_w]
               rfl
              refine pure_ (i:=4) (N:=some 55) (v:=?_) (a':=?_) (mB_ 21 31) rfl rfl (any_of HT_.out (by kernel_rfl)) (fun _ _ _ h=>h) (Or.inl ⟨by rfl,?_⟩) ?_ ?_;rotate_left
              ·
               intro w'
               go_simp
               with_reducible rfl
              rotate_left
              ·
               simp only [Act.put,z1_,z2_,z3_,i64_w,i32_w]
               rfl
              refine pure_ (i:=5) (N:=some 56) (v:=?_) (a':=?_) (mB_ 21 63) rfl rfl (any_of HT_.out (by kernel_rfl)) (fun _ _ _ h=>h) (Or.inl ⟨by rfl,?_⟩) ?_ ?_;rotate_left
              ·
               intro w'
               go_simp
               with_reducible rfl
              rotate_left
              ·
               simp only [Act.put,z1_,z2_,z3_,i64_w,i32_w]
               rfl
              refine pure_ (i:=6) (N:=some 57) (v:=?_) (a':=?_) (mB_ 21 127) rfl rfl (any_of HT_.out (by kernel_rfl)) (fun _ _ _ h=>h) (Or.inl ⟨by rfl,?_⟩) ?_ ?_;rotate_left
              ·
               intro w'
               go_simp
               with_reducible rfl
              rotate_left
              ·
               simp only [Act.put,z1_,z2_,z3_,i64_w,i32_w]
               rfl
              refine pure_ (i:=7) (N:=some 58) (v:=?_) (a':=?_) (mB_ 21 255) rfl rfl (any_of HT_.out (by kernel_rfl)) (fun _ _ _ h=>h) (Or.inl ⟨by rfl,?_⟩) ?_ ?_;rotate_left
              ·
               intro w'
               go_simp
               with_reducible rfl
              rotate_left
              ·
               simp only [Act.put,z1_,z2_,z3_,i64_w,i32_w]
               rfl
              refine pure_ (i:=8) (N:=some 59) (v:=?_) (a':=?_) (mB_ 21 511) rfl rfl (any_of HT_.out (by kernel_rfl)) (fun _ _ _ h=>h) (Or.inl ⟨by rfl,?_⟩) ?_ ?_;rotate_left
              ·
               intro w'
               go_simp
               with_reducible rfl
              rotate_left
              ·
               simp only [Act.put,z1_,z2_,z3_,i64_w,i32_w]
               rfl
              refine pure_ (i:=9) (N:=some 60) (v:=?_) (a':=?_) (mB_ 21 1023) rfl rfl (any_of HT_.out (by kernel_rfl)) (fun _ _ _ h=>h) (Or.inl ⟨by rfl,?_⟩) ?_ ?_;rotate_left
              ·
               intro w'
               go_simp
               with_reducible rfl
              rotate_left
              ·
               simp only [Act.put,z1_,z2_,z3_,i64_w,i32_w]
               rfl
              refine pure_ (i:=10) (N:=some 61) (v:=?_) (a':=?_) (mB_ 21 2047) rfl rfl (any_of HT_.out (by kernel_rfl)) (fun _ _ _ h=>h) (Or.inl ⟨by rfl,?_⟩) ?_ ?_;rotate_left
              ·
               intro w'
               go_simp
               with_reducible rfl
              rotate_left
              ·
               simp only [Act.put,z1_,z2_,z3_,i64_w,i32_w]
               rfl
              refine pure_ (i:=12) (N:=some 63) (v:=?_) (a':=?_) (mB_ 21 6143) rfl rfl (any_of HT_.out (by kernel_rfl)) (fun _ _ _ h=>h) (Or.inl ⟨by rfl,?_⟩) ?_ ?_;rotate_left
              ·
               intro w'
               go_simp
               with_reducible rfl
              rotate_left
              ·
               simp only [Act.put,z1_,z2_,z3_,i64_w,i32_w]
               rfl
              refine pure_ (i:=13) (N:=some 64) (v:=?_) (a':=?_) (mB_ 21 14335) rfl rfl (any_of HT_.out (by kernel_rfl)) (fun _ _ _ h=>h) (Or.inl ⟨by rfl,?_⟩) ?_ ?_;rotate_left
              ·
               intro w'
               go_simp
               with_reducible rfl
              rotate_left
              ·
               simp only [Act.put,z1_,z2_,z3_,i64_w,i32_w]
               rfl
              refine take_ (i:=11) (N:=some 62) (v:=?_) (a':=?_) (mB_ 21 16383) rfl rfl (take_ofW HT_.out HW_.out (by kernel_rfl)) (fun _ _ _ h=>h) (Or.inl ⟨by rfl,?_⟩) hHeld ?_ ?_;rotate_left
              ·
               rintro w' ⟨s0,s1,s2,s3,s4,s5,s6,s7,s8,s9,s10,s11,s12,s13⟩
               go_simp
               with_reducible rfl
              rotate_left
              ·
               simp only [Act.put,z1_,z2_,z3_,i64_w,i32_w]
               rfl
              refine pure_ (i:=14) (N:=some 65) (v:=?_) (a':=?_) (mB_ 21 32767) rfl rfl (any_of HT_.out (by kernel_rfl)) (fun _ _ _ h=>h) (Or.inl ⟨by rfl,?_⟩) ?_ ?_;rotate_left
              ·
               intro w'
               go_simp
               with_reducible rfl
              rotate_left
              ·
               simp only [Act.put,z1_,z2_,z3_,i64_w,i32_w]
               rfl
              refine take_ (i:=15) (N:=some 66) (v:=?_) (a':=?_) (mB_ 21 65535) rfl rfl (take_ofW HT_.out HW_.out (by kernel_rfl)) (fun _ _ _ h=>h) (Or.inl ⟨by rfl,?_⟩) hHeld ?_ ?_;rotate_left
              ·
               rintro w' ⟨s0,s1,s2,s3,s4,s5,s6,s7,s8,s9,s10,s11,s12,s13⟩
               go_simp
               with_reducible rfl
              rotate_left
              ·
               simp only [Act.put,z1_,z2_,z3_,i64_w,i32_w]
               rfl
              refine take_ (i:=16) (N:=some 67) (v:=?_) (a':=?_) (mB_ 21 131071) rfl rfl (take_ofW HT_.out HW_.out (by kernel_rfl)) (fun _ _ _ h=>h) (Or.inl ⟨by rfl,?_⟩) hHeld ?_ ?_;rotate_left
              ·
               rintro w' ⟨s0,s1,s2,s3,s4,s5,s6,s7,s8,s9,s10,s11,s12,s13⟩
               go_simp
               with_reducible rfl
              rotate_left
              ·
               simp only [Act.put,z1_,z2_,z3_,i64_w,i32_w]
               rfl
              refine one_ (i:=17) (N:=some 68) (mB_ 21 262143) rfl rfl (one_of HT_.out (by kernel_rfl)) (by decide) (fun K hK=>?_);refine goes_ Try.func80 (by kernel_rfl) rfl #[.agg #[.int .i8 ((rd_T38 ((rd_T30 l0 0).f2) (ji26)).f0),.int .i8 ((rd_T38 ((rd_T30 l0 0).f2) (ji26)).f1),.int .i8 ((rd_T38 ((rd_T30 l0 0).f2) (ji26)).f2),.int .i8 ((rd_T38 ((rd_T30 l0 0).f2) (ji26)).f3)],.agg #[.int .i8 ((rd_T38 ((rd_T30 l0 0).f2) x5_2).f0),.int .i8 ((rd_T38 ((rd_T30 l0 0).f2) x5_2).f1),.int .i8 ((rd_T38 ((rd_T30 l0 0).f2) x5_2).f2),.int .i8 ((rd_T38 ((rd_T30 l0 0).f2) x5_2).f3)]] (by rfl) rfl rfl (by (try simp only [List.map_toArray,List.map_cons,List.map_nil]);first|done|(simp only [hji26];rfl)|rfl|(simp only [List.length_drop,List.length_take];rfl)) ?_
              with_reducible refine (spec_l01Before.calls ((rd_T38 ((rd_T30 l0 0).f2) (ji26)).f0) ((rd_T38 ((rd_T30 l0 0).f2) (ji26)).f1) ((rd_T38 ((rd_T30 l0 0).f2) (ji26)).f2) ((rd_T38 ((rd_T30 l0 0).f2) (ji26)).f3) ((rd_T38 ((rd_T30 l0 0).f2) x5_2).f0) ((rd_T38 ((rd_T30 l0 0).f2) x5_2).f1) ((rd_T38 ((rd_T30 l0 0).f2) x5_2).f2) ((rd_T38 ((rd_T30 l0 0).f2) x5_2).f3) t157 _ A29.out).mono ?_
              rintro e w33 ⟨rfl,hb⟩;refine ⟨_,rfl,?_⟩;have n0_:=am_ (blk_below (g:=gb137) (o:=.cells (arrC .i64 x138000_2) 83 (0,0)) (by (with_reducible repeat (first|apply kN_|apply kD_|apply kA_));exact BK137.out) hb);have n1_:=am_ (blk_below (g:=gb138) (o:=.cells (arrC .i64 x139000_2) 83 (0,0)) (by (with_reducible repeat (first|apply kN_|apply kD_|apply kA_));exact BK138.out) hb);have n2_:=am_ (blk_below (g:=gb152) (o:=.cells #[.int .i8 ((rd_T38 ((rd_T30 l0 0).f2) x5_2).f0),.int .i8 ((rd_T38 ((rd_T30 l0 0).f2) x5_2).f1),.int .i8 ((rd_T38 ((rd_T30 l0 0).f2) x5_2).f2),.int .i8 ((rd_T38 ((rd_T30 l0 0).f2) x5_2).f3)] 38 (0,0)) (by (with_reducible repeat (first|apply kN_|apply kD_|apply kA_));exact BK152.out) hb);have n3_:=am_ (bT_ (by repeat (first|(with_reducible first|exact HB.out|apply bA_|apply bN_|apply bD_|refine bS_ ?_ GE137.out|refine bS_ ?_ GE138.out|refine bS_ ?_ GE152.out)|exact HB.out)) hb);clear BK137;clear BK138;clear BK152;clear HB;have BK137:=n0_;have BK138:=n1_;have BK152:=n2_;have HB:=n3_;clear n0_ n1_ n2_ n3_;(try clear hb);(try clear hb2);(try clear hk);(try clear hi);refine hK.out _ _ ⟨(kC_ BK152.out 0).trans rfl,(kC_ BK152.out 1).trans rfl,(kC_ BK152.out 2).trans rfl,(kC_ BK152.out 3).trans rfl,((HB.out.cell (bl_ w _ hw154_0)).trans hw154_0),((HB.out.cell (bl_ w _ hw154_1)).trans hw154_1),((HB.out.cell (bl_ w _ hw154_2)).trans hw154_2),((HB.out.cell (bl_ w _ hw155_0)).trans hw155_0),((HB.out.cell (bl_ w _ hw155_1)).trans hw155_1),((HB.out.cell (bl_ w _ hw155_2)).trans hw155_2),((HB.out.cell (bl_ w _ hw156_0)).trans hw156_0),((HB.out.cell (bl_ w _ hw156_1)).trans hw156_1),((HB.out.cell (bl_ w _ hw156_2)).trans hw156_2),((HB.out.cell (bl_ w _ hw156_3)).trans hw156_3)⟩ (fun hHeld=>?_);clear hK K;refine norm_ (a':=?_) ?_ ?_;rotate_left
              ·
               show Act.put _ (some 68) _ = _
               simp only [Act.put,z1_,z2_,z3_,i64_w,i32_w]
               rfl
              refine pure_ (i:=18) (N:=some 69) (v:=?_) (a':=?_) (mB_ 21 524287) rfl rfl (any_of HT_.out (by kernel_rfl)) (fun _ _ _ h=>h) (Or.inl ⟨by rfl,?_⟩) ?_ ?_;rotate_left
              ·
               intro w'
               go_simp
               with_reducible rfl
              rotate_left
              ·
               simp only [Act.put,z1_,z2_,z3_,i64_w,i32_w]
               rfl
              refine pure_ (i:=19) (N:=some 70) (v:=?_) (a':=?_) (mB_ 21 1048575) rfl rfl (any_of HT_.out (by kernel_rfl)) (fun _ _ _ h=>h) (Or.inl ⟨by rfl,?_⟩) ?_ ?_;rotate_left
              ·
               intro w'
               go_simp
               with_reducible rfl
              rotate_left
              ·
               simp only [Act.put,z1_,z2_,z3_,i64_w,i32_w]
               rfl
              refine pure_ (i:=20) (N:=some 71) (v:=?_) (a':=?_) (mB_ 21 2097151) rfl rfl (any_of HT_.out (by kernel_rfl)) (fun _ _ _ h=>h) (Or.inl ⟨by rfl,?_⟩) ?_ ?_;rotate_left
              ·
               intro w'
               go_simp
               with_reducible rfl
              rotate_left
              ·
               simp only [Act.put,z1_,z2_,z3_,i64_w,i32_w]
               rfl
              refine done_ (done_of HT_.out (by kernel_rfl)) ?_
              try go_wp2
              go_meet
              case rel=>exact ⟨_,(!t157),(by first|rfl|(simp;done)|(simp [*];done)),H',⟨by have:=HJ1.out;have:=HK2.out;first|omega|exact Nat.le_refl _⟩,⟨by (with_reducible repeat (first|apply kN_|apply kD_|apply kA_));exact BK137.out⟩,⟨by (with_reducible repeat (first|apply kN_|apply kD_|apply kA_));exact BK138.out⟩,⟨by (with_reducible repeat (first|apply kN_|apply kD_|apply kA_));exact BK152.out⟩,⟨by repeat (first|(with_reducible first|exact HB.out|apply bA_|apply bN_|apply bD_|refine bS_ ?_ GE137.out|refine bS_ ?_ GE138.out|refine bS_ ?_ GE152.out)|exact HB.out)⟩⟩
             ·
              rw [if_neg c28] at H;exact absurd H (by simp)
            ·
             rw [if_neg c27] at H;exact absurd H (by simp)
           ·
            rw [if_neg c25] at H;have c25b0 : decide (0 < x5_2) = false:=decide_eq_false c25;clear c25
            (first|rw [c25b0]|(simp only [i64_w,i32_w];rw [c25b0])|skip)
            have H':=am_ H;clear H
            try go_wp2
            have n0_ : Aside0 (((((w19.setCell ⟨gb152,0,none⟩ (.int .i8 ((rd_T38 ((rd_T30 l0 0).f2) x5_2).f0))).setCell ⟨gb152,1,none⟩ (.int .i8 ((rd_T38 ((rd_T30 l0 0).f2) x5_2).f1))).setCell ⟨gb152,2,none⟩ (.int .i8 ((rd_T38 ((rd_T30 l0 0).f2) x5_2).f2))).setCell ⟨gb152,3,none⟩ (.int .i8 ((rd_T38 ((rd_T30 l0 0).f2) x5_2).f3))).heap[gb137]? = some (.cells (arrC .i64 x138000_2) 83 (0,0))):=⟨by (with_reducible repeat (first|apply kN_|apply kD_|apply kA_));refine blk_far ?_ NB137_152.out _;(with_reducible repeat (first|apply kN_|apply kD_|apply kA_));refine blk_far ?_ NB137_152.out _;(with_reducible repeat (first|apply kN_|apply kD_|apply kA_));refine blk_far ?_ NB137_152.out _;(with_reducible repeat (first|apply kN_|apply kD_|apply kA_));refine blk_far ?_ NB137_152.out _;(with_reducible repeat (first|apply kN_|apply kD_|apply kA_));exact BK137.out⟩
            have n1_ : Aside0 (((((w19.setCell ⟨gb152,0,none⟩ (.int .i8 ((rd_T38 ((rd_T30 l0 0).f2) x5_2).f0))).setCell ⟨gb152,1,none⟩ (.int .i8 ((rd_T38 ((rd_T30 l0 0).f2) x5_2).f1))).setCell ⟨gb152,2,none⟩ (.int .i8 ((rd_T38 ((rd_T30 l0 0).f2) x5_2).f2))).setCell ⟨gb152,3,none⟩ (.int .i8 ((rd_T38 ((rd_T30 l0 0).f2) x5_2).f3))).heap[gb138]? = some (.cells (arrC .i64 x139000_2) 83 (0,0))):=⟨by (with_reducible repeat (first|apply kN_|apply kD_|apply kA_));refine blk_far ?_ NB138_152.out _;(with_reducible repeat (first|apply kN_|apply kD_|apply kA_));refine blk_far ?_ NB138_152.out _;(with_reducible repeat (first|apply kN_|apply kD_|apply kA_));refine blk_far ?_ NB138_152.out _;(with_reducible repeat (first|apply kN_|apply kD_|apply kA_));refine blk_far ?_ NB138_152.out _;(with_reducible repeat (first|apply kN_|apply kD_|apply kA_));exact BK138.out⟩
            have n2_ : Aside0 (((((w19.setCell ⟨gb152,0,none⟩ (.int .i8 ((rd_T38 ((rd_T30 l0 0).f2) x5_2).f0))).setCell ⟨gb152,1,none⟩ (.int .i8 ((rd_T38 ((rd_T30 l0 0).f2) x5_2).f1))).setCell ⟨gb152,2,none⟩ (.int .i8 ((rd_T38 ((rd_T30 l0 0).f2) x5_2).f2))).setCell ⟨gb152,3,none⟩ (.int .i8 ((rd_T38 ((rd_T30 l0 0).f2) x5_2).f3))).heap[gb152]? = some (.cells #[.int .i8 ((rd_T38 ((rd_T30 l0 0).f2) x5_2).f0),.int .i8 ((rd_T38 ((rd_T30 l0 0).f2) x5_2).f1),.int .i8 ((rd_T38 ((rd_T30 l0 0).f2) x5_2).f2),.int .i8 ((rd_T38 ((rd_T30 l0 0).f2) x5_2).f3)] 38 (0,0))):=⟨by (with_reducible repeat (first|apply kN_|apply kD_|apply kA_));refine blk_put (cs:=#[.int .i8 ((rd_T38 ((rd_T30 l0 0).f2) x5_2).f0),.int .i8 ((rd_T38 ((rd_T30 l0 0).f2) x5_2).f1),.int .i8 ((rd_T38 ((rd_T30 l0 0).f2) x5_2).f2),.int .i8 0]) ?_ 3 _ rfl;(with_reducible repeat (first|apply kN_|apply kD_|apply kA_));refine blk_put (cs:=#[.int .i8 ((rd_T38 ((rd_T30 l0 0).f2) x5_2).f0),.int .i8 ((rd_T38 ((rd_T30 l0 0).f2) x5_2).f1),.int .i8 0,.int .i8 0]) ?_ 2 _ rfl;(with_reducible repeat (first|apply kN_|apply kD_|apply kA_));refine blk_put (cs:=#[.int .i8 ((rd_T38 ((rd_T30 l0 0).f2) x5_2).f0),.int .i8 0,.int .i8 0,.int .i8 0]) ?_ 1 _ rfl;(with_reducible repeat (first|apply kN_|apply kD_|apply kA_));refine blk_put (cs:=#[.int .i8 0,.int .i8 0,.int .i8 0,.int .i8 0]) ?_ 0 _ rfl;(with_reducible repeat (first|apply kN_|apply kD_|apply kA_));exact BK152.out⟩
            have n3_ : Aside0 (Below w.heap.size w ((((w19.setCell ⟨gb152,0,none⟩ (.int .i8 ((rd_T38 ((rd_T30 l0 0).f2) x5_2).f0))).setCell ⟨gb152,1,none⟩ (.int .i8 ((rd_T38 ((rd_T30 l0 0).f2) x5_2).f1))).setCell ⟨gb152,2,none⟩ (.int .i8 ((rd_T38 ((rd_T30 l0 0).f2) x5_2).f2))).setCell ⟨gb152,3,none⟩ (.int .i8 ((rd_T38 ((rd_T30 l0 0).f2) x5_2).f3)))):=⟨by repeat (first|(with_reducible first|exact HB.out|apply bA_|apply bN_|apply bD_|refine bS_ ?_ GE137.out|refine bS_ ?_ GE138.out|refine bS_ ?_ GE152.out)|exact HB.out)⟩
            (try clear BK137);(try clear BK138);(try clear BK152);(try clear HB);generalize ((((w19.setCell ⟨gb152,0,none⟩ (.int .i8 ((rd_T38 ((rd_T30 l0 0).f2) x5_2).f0))).setCell ⟨gb152,1,none⟩ (.int .i8 ((rd_T38 ((rd_T30 l0 0).f2) x5_2).f1))).setCell ⟨gb152,2,none⟩ (.int .i8 ((rd_T38 ((rd_T30 l0 0).f2) x5_2).f2))).setCell ⟨gb152,3,none⟩ (.int .i8 ((rd_T38 ((rd_T30 l0 0).f2) x5_2).f3))) = w34 at n0_ n1_ n2_ n3_ ⊢;have BK137:=n0_;have BK138:=n1_;have BK152:=n2_;have HB:=n3_;clear n0_ n1_ n2_ n3_;have n0_:=am_ (kD_ BK137.out);have n1_:=am_ (kD_ BK138.out);have n2_:=am_ (kD_ BK152.out);have n3_:=am_ (bD_ HB.out);clear BK137;clear BK138;clear BK152;clear HB;have BK137:=n0_;have BK138:=n1_;have BK152:=n2_;have HB:=n3_;clear n0_ n1_ n2_ n3_;refine start_ (n:=21) (S:=fun w'=>w'.cell? ⟨gb152,0,none⟩ = some (.int .i8 ((rd_T38 ((rd_T30 l0 0).f2) x5_2).f0)) ∧ w'.cell? ⟨gb152,1,none⟩ = some (.int .i8 ((rd_T38 ((rd_T30 l0 0).f2) x5_2).f1)) ∧ w'.cell? ⟨gb152,2,none⟩ = some (.int .i8 ((rd_T38 ((rd_T30 l0 0).f2) x5_2).f2)) ∧ w'.cell? ⟨gb152,3,none⟩ = some (.int .i8 ((rd_T38 ((rd_T30 l0 0).f2) x5_2).f3))) (ds:=[]) (mB_ 21 0) (by kernel_rfl) rfl rfl ⟨(kC_ BK152.out 0).trans rfl,(kC_ BK152.out 1).trans rfl,(kC_ BK152.out 2).trans rfl,(kC_ BK152.out 3).trans rfl⟩ (fun hHeld=>?_);refine with_tabW spec_l01Lay.tab8 spec_l01Lay.bits8 (fun HT_ HW_=>?_);generalize w34.drew = w35 at BK137 BK138 BK152 HB hHeld ⊢;refine pure_ (i:=0) (N:=some 51) (v:=?_) (a':=?_) (mB_ 21 1) rfl rfl (any_of HT_.out (by kernel_rfl)) (fun _ _ _ h=>h) (Or.inl ⟨by rfl,?_⟩) ?_ ?_;rotate_left
            ·
             intro w'
             go_simp
             with_reducible rfl
            rotate_left
            ·
             simp only [Act.put,z1_,z2_,z3_,i64_w,i32_w]
             rfl
            refine take_ (i:=1) (N:=some 52) (v:=?_) (a':=?_) (mB_ 21 3) rfl rfl (take_ofW HT_.out HW_.out (by kernel_rfl)) (fun _ _ _ h=>h) (Or.inl ⟨by rfl,?_⟩) hHeld ?_ ?_;rotate_left
            ·
             rintro w' ⟨s0,s1,s2,s3⟩
             go_simp
             with_reducible rfl
            rotate_left
            ·
             simp only [Act.put,z1_,z2_,z3_,i64_w,i32_w]
             rfl
            refine one_ (i:=2) (N:=some 53) (mB_ 21 7) rfl rfl (one_of HT_.out (by kernel_rfl)) (by decide) (fun K hK=>?_);refine goes_ Try.func78 (by kernel_rfl) rfl #[.pointer (some ad147),.agg #[.int .i8 ((rd_T38 ((rd_T30 l0 0).f2) x5_2).f0),.int .i8 ((rd_T38 ((rd_T30 l0 0).f2) x5_2).f1),.int .i8 ((rd_T38 ((rd_T30 l0 0).f2) x5_2).f2),.int .i8 ((rd_T38 ((rd_T30 l0 0).f2) x5_2).f3)]] (by rfl) rfl rfl (by (try simp only [List.map_toArray,List.map_cons,List.map_nil]);first|done|rfl|(simp only [List.length_drop,List.length_take];rfl)) ?_
            with_reducible refine (spec_l01Lies.calls _ c0 l0 ((rd_T38 ((rd_T30 l0 0).f2) x5_2).f0) ((rd_T38 ((rd_T30 l0 0).f2) x5_2).f1) ((rd_T38 ((rd_T30 l0 0).f2) x5_2).f2) ((rd_T38 ((rd_T30 l0 0).f2) x5_2).f3) true _ ?side1 ?side2 A23.out).mono ?_
            (case side1=>repeat (first|exact (Kd.C_below HR0.out HB.out)|(with_reducible refine Kd.C_alloc ?_ _)|(with_reducible refine Kd.C_drewN ?_ _)|(with_reducible refine Kd.C_drew ?_)))
            (case side2=>exact HC0.out)
            rintro e w36 ⟨rfl,hb⟩;refine ⟨_,rfl,?_⟩;have n0_:=am_ (blk_below (g:=gb137) (o:=.cells (arrC .i64 x138000_2) 83 (0,0)) (by (with_reducible repeat (first|apply kN_|apply kD_|apply kA_));exact BK137.out) hb);have n1_:=am_ (blk_below (g:=gb138) (o:=.cells (arrC .i64 x139000_2) 83 (0,0)) (by (with_reducible repeat (first|apply kN_|apply kD_|apply kA_));exact BK138.out) hb);have n2_:=am_ (blk_below (g:=gb152) (o:=.cells #[.int .i8 ((rd_T38 ((rd_T30 l0 0).f2) x5_2).f0),.int .i8 ((rd_T38 ((rd_T30 l0 0).f2) x5_2).f1),.int .i8 ((rd_T38 ((rd_T30 l0 0).f2) x5_2).f2),.int .i8 ((rd_T38 ((rd_T30 l0 0).f2) x5_2).f3)] 38 (0,0)) (by (with_reducible repeat (first|apply kN_|apply kD_|apply kA_));exact BK152.out) hb);have n3_:=am_ (bT_ (by repeat (first|(with_reducible first|exact HB.out|apply bA_|apply bN_|apply bD_|refine bS_ ?_ GE137.out|refine bS_ ?_ GE138.out|refine bS_ ?_ GE152.out)|exact HB.out)) hb);clear BK137;clear BK138;clear BK152;clear HB;have BK137:=n0_;have BK138:=n1_;have BK152:=n2_;have HB:=n3_;clear n0_ n1_ n2_ n3_;(try clear hb);(try clear hb2);(try clear hk);(try clear hi);refine hK.out _ _ ⟨(kC_ BK152.out 0).trans rfl,(kC_ BK152.out 1).trans rfl,(kC_ BK152.out 2).trans rfl,(kC_ BK152.out 3).trans rfl⟩ (fun hHeld=>?_);clear hK K;refine norm_ (a':=?_) ?_ ?_;rotate_left
            ·
             show Act.put _ (some 53) _ = _
             simp only [Act.put,z1_,z2_,z3_,i64_w,i32_w]
             rfl
            refine pure_ (i:=3) (N:=some 54) (v:=?_) (a':=?_) (mB_ 21 15) rfl rfl (any_of HT_.out (by kernel_rfl)) (fun _ _ _ h=>h) (Or.inl ⟨by rfl,?_⟩) ?_ ?_;rotate_left
            ·
             intro w'
             go_simp
             with_reducible rfl
            rotate_left
            ·
             simp only [Act.put,z1_,z2_,z3_,i64_w,i32_w]
             rfl
            refine pure_ (i:=4) (N:=some 55) (v:=?_) (a':=?_) (mB_ 21 31) rfl rfl (any_of HT_.out (by kernel_rfl)) (fun _ _ _ h=>h) (Or.inl ⟨by rfl,?_⟩) ?_ ?_;rotate_left
            ·
             intro w'
             go_simp
             with_reducible rfl
            rotate_left
            ·
             simp only [Act.put,z1_,z2_,z3_,i64_w,i32_w]
             rfl
            refine pure_ (i:=5) (N:=some 56) (v:=?_) (a':=?_) (mB_ 21 63) rfl rfl (any_of HT_.out (by kernel_rfl)) (fun _ _ _ h=>h) (Or.inl ⟨by rfl,?_⟩) ?_ ?_;rotate_left
            ·
             intro w'
             go_simp
             with_reducible rfl
            rotate_left
            ·
             simp only [Act.put,z1_,z2_,z3_,i64_w,i32_w]
             rfl
            refine pure_ (i:=6) (N:=some 57) (v:=?_) (a':=?_) (mB_ 21 127) rfl rfl (any_of HT_.out (by kernel_rfl)) (fun _ _ _ h=>h) (Or.inl ⟨by rfl,?_⟩) ?_ ?_;rotate_left
            ·
             intro w'
             go_simp
             with_reducible rfl
            rotate_left
            ·
             simp only [Act.put,z1_,z2_,z3_,i64_w,i32_w]
             rfl
            refine pure_ (i:=7) (N:=some 58) (v:=?_) (a':=?_) (mB_ 21 255) rfl rfl (any_of HT_.out (by kernel_rfl)) (fun _ _ _ h=>h) (Or.inl ⟨by rfl,?_⟩) ?_ ?_;rotate_left
            ·
             intro w'
             go_simp
             with_reducible rfl
            rotate_left
            ·
             simp only [Act.put,z1_,z2_,z3_,i64_w,i32_w]
             rfl
            refine pure_ (i:=8) (N:=some 59) (v:=undef) (a':=?_) (mB_ 21 511) rfl rfl (any_of HT_.out (by kernel_rfl)) (fun _ _ _ h=>h) (Or.inr ⟨by rfl,rfl⟩) ?_ ?_;rotate_left
            ·
             simp only [Act.put,z1_,z2_,z3_,i64_w,i32_w]
             rfl
            refine pure_ (i:=9) (N:=some 60) (v:=undef) (a':=?_) (mB_ 21 1023) rfl rfl (any_of HT_.out (by kernel_rfl)) (fun _ _ _ h=>h) (Or.inr ⟨by rfl,rfl⟩) ?_ ?_;rotate_left
            ·
             simp only [Act.put,z1_,z2_,z3_,i64_w,i32_w]
             rfl
            refine pure_ (i:=10) (N:=some 61) (v:=undef) (a':=?_) (mB_ 21 2047) rfl rfl (any_of HT_.out (by kernel_rfl)) (fun _ _ _ h=>h) (Or.inr ⟨by rfl,rfl⟩) ?_ ?_;rotate_left
            ·
             simp only [Act.put,z1_,z2_,z3_,i64_w,i32_w]
             rfl
            refine pure_ (i:=11) (N:=some 62) (v:=undef) (a':=?_) (mB_ 21 4095) rfl rfl (any_of HT_.out (by kernel_rfl)) (fun _ _ _ h=>h) (Or.inr ⟨by rfl,rfl⟩) ?_ ?_;rotate_left
            ·
             simp only [Act.put,z1_,z2_,z3_,i64_w,i32_w]
             rfl
            refine pure_ (i:=12) (N:=some 63) (v:=undef) (a':=?_) (mB_ 21 8191) rfl rfl (any_of HT_.out (by kernel_rfl)) (fun _ _ _ h=>h) (Or.inr ⟨by rfl,rfl⟩) ?_ ?_;rotate_left
            ·
             simp only [Act.put,z1_,z2_,z3_,i64_w,i32_w]
             rfl
            refine pure_ (i:=13) (N:=some 64) (v:=undef) (a':=?_) (mB_ 21 16383) rfl rfl (any_of HT_.out (by kernel_rfl)) (fun _ _ _ h=>h) (Or.inr ⟨by rfl,rfl⟩) ?_ ?_;rotate_left
            ·
             simp only [Act.put,z1_,z2_,z3_,i64_w,i32_w]
             rfl
            refine pure_ (i:=14) (N:=some 65) (v:=undef) (a':=?_) (mB_ 21 32767) rfl rfl (any_of HT_.out (by kernel_rfl)) (fun _ _ _ h=>h) (Or.inr ⟨by rfl,rfl⟩) ?_ ?_;rotate_left
            ·
             simp only [Act.put,z1_,z2_,z3_,i64_w,i32_w]
             rfl
            refine pure_ (i:=15) (N:=some 66) (v:=undef) (a':=?_) (mB_ 21 65535) rfl rfl (any_of HT_.out (by kernel_rfl)) (fun _ _ _ h=>h) (Or.inr ⟨by rfl,rfl⟩) ?_ ?_;rotate_left
            ·
             simp only [Act.put,z1_,z2_,z3_,i64_w,i32_w]
             rfl
            refine pure_ (i:=16) (N:=some 67) (v:=undef) (a':=?_) (mB_ 21 131071) rfl rfl (any_of HT_.out (by kernel_rfl)) (fun _ _ _ h=>h) (Or.inr ⟨by rfl,rfl⟩) ?_ ?_;rotate_left
            ·
             simp only [Act.put,z1_,z2_,z3_,i64_w,i32_w]
             rfl
            refine pure_ (i:=17) (N:=some 68) (v:=undef) (a':=?_) (mB_ 21 262143) rfl rfl (any_of HT_.out (by kernel_rfl)) (fun _ _ _ h=>h) (Or.inr ⟨by rfl,rfl⟩) ?_ ?_;rotate_left
            ·
             simp only [Act.put,z1_,z2_,z3_,i64_w,i32_w]
             rfl
            refine pure_ (i:=18) (N:=some 69) (v:=undef) (a':=?_) (mB_ 21 524287) rfl rfl (any_of HT_.out (by kernel_rfl)) (fun _ _ _ h=>h) (Or.inr ⟨by rfl,rfl⟩) ?_ ?_;rotate_left
            ·
             simp only [Act.put,z1_,z2_,z3_,i64_w,i32_w]
             rfl
            refine pure_ (i:=19) (N:=some 70) (v:=?_) (a':=?_) (mB_ 21 1048575) rfl rfl (any_of HT_.out (by kernel_rfl)) (fun _ _ _ h=>h) (Or.inl ⟨by rfl,?_⟩) ?_ ?_;rotate_left
            ·
             intro w'
             go_simp
             with_reducible rfl
            rotate_left
            ·
             simp only [Act.put,z1_,z2_,z3_,i64_w,i32_w]
             rfl
            refine pure_ (i:=20) (N:=some 71) (v:=?_) (a':=?_) (mB_ 21 2097151) rfl rfl (any_of HT_.out (by kernel_rfl)) (fun _ _ _ h=>h) (Or.inl ⟨by rfl,?_⟩) ?_ ?_;rotate_left
            ·
             intro w'
             go_simp
             with_reducible rfl
            rotate_left
            ·
             simp only [Act.put,z1_,z2_,z3_,i64_w,i32_w]
             rfl
            refine done_ (done_of HT_.out (by kernel_rfl)) ?_
            try go_wp2
            go_meet
            case rel=>exact ⟨_,(false),(by first|rfl|(simp;done)|(simp [*];done)),H',⟨by have:=HJ1.out;have:=HK2.out;first|omega|exact Nat.le_refl _⟩,⟨by (with_reducible repeat (first|apply kN_|apply kD_|apply kA_));exact BK137.out⟩,⟨by (with_reducible repeat (first|apply kN_|apply kD_|apply kA_));exact BK138.out⟩,⟨by (with_reducible repeat (first|apply kN_|apply kD_|apply kA_));exact BK152.out⟩,⟨by repeat (first|(with_reducible first|exact HB.out|apply bA_|apply bN_|apply bD_|refine bS_ ?_ GE137.out|refine bS_ ?_ GE138.out|refine bS_ ?_ GE152.out)|exact HB.out)⟩⟩
          ·
           replace c24:=Bool.eq_false_iff.mpr c24;subst c24;have H1 : (spec_l01Lay.j2 k2 l0 x5_2 true x138000_2 x139000_2 ((rd_T38 ((rd_T30 l0 0).f2) x5_2).f0) ((rd_T38 ((rd_T30 l0 0).f2) x5_2).f1) ((rd_T38 ((rd_T30 l0 0).f2) x5_2).f2) ((rd_T38 ((rd_T30 l0 0).f2) x5_2).f3)) = some (r1,r2):=by rw [if_neg (show ¬ (false = true) by decide)] at H;exact H
           clear H;have H:=H1;clear H1;have H':=am_ H;clear H
           try go_wp2
           have n0_ : Aside0 (((((w19.setCell ⟨gb152,0,none⟩ (.int .i8 ((rd_T38 ((rd_T30 l0 0).f2) x5_2).f0))).setCell ⟨gb152,1,none⟩ (.int .i8 ((rd_T38 ((rd_T30 l0 0).f2) x5_2).f1))).setCell ⟨gb152,2,none⟩ (.int .i8 ((rd_T38 ((rd_T30 l0 0).f2) x5_2).f2))).setCell ⟨gb152,3,none⟩ (.int .i8 ((rd_T38 ((rd_T30 l0 0).f2) x5_2).f3))).heap[gb137]? = some (.cells (arrC .i64 x138000_2) 83 (0,0))):=⟨by (with_reducible repeat (first|apply kN_|apply kD_|apply kA_));refine blk_far ?_ NB137_152.out _;(with_reducible repeat (first|apply kN_|apply kD_|apply kA_));refine blk_far ?_ NB137_152.out _;(with_reducible repeat (first|apply kN_|apply kD_|apply kA_));refine blk_far ?_ NB137_152.out _;(with_reducible repeat (first|apply kN_|apply kD_|apply kA_));refine blk_far ?_ NB137_152.out _;(with_reducible repeat (first|apply kN_|apply kD_|apply kA_));exact BK137.out⟩
           have n1_ : Aside0 (((((w19.setCell ⟨gb152,0,none⟩ (.int .i8 ((rd_T38 ((rd_T30 l0 0).f2) x5_2).f0))).setCell ⟨gb152,1,none⟩ (.int .i8 ((rd_T38 ((rd_T30 l0 0).f2) x5_2).f1))).setCell ⟨gb152,2,none⟩ (.int .i8 ((rd_T38 ((rd_T30 l0 0).f2) x5_2).f2))).setCell ⟨gb152,3,none⟩ (.int .i8 ((rd_T38 ((rd_T30 l0 0).f2) x5_2).f3))).heap[gb138]? = some (.cells (arrC .i64 x139000_2) 83 (0,0))):=⟨by (with_reducible repeat (first|apply kN_|apply kD_|apply kA_));refine blk_far ?_ NB138_152.out _;(with_reducible repeat (first|apply kN_|apply kD_|apply kA_));refine blk_far ?_ NB138_152.out _;(with_reducible repeat (first|apply kN_|apply kD_|apply kA_));refine blk_far ?_ NB138_152.out _;(with_reducible repeat (first|apply kN_|apply kD_|apply kA_));refine blk_far ?_ NB138_152.out _;(with_reducible repeat (first|apply kN_|apply kD_|apply kA_));exact BK138.out⟩
           have n2_ : Aside0 (((((w19.setCell ⟨gb152,0,none⟩ (.int .i8 ((rd_T38 ((rd_T30 l0 0).f2) x5_2).f0))).setCell ⟨gb152,1,none⟩ (.int .i8 ((rd_T38 ((rd_T30 l0 0).f2) x5_2).f1))).setCell ⟨gb152,2,none⟩ (.int .i8 ((rd_T38 ((rd_T30 l0 0).f2) x5_2).f2))).setCell ⟨gb152,3,none⟩ (.int .i8 ((rd_T38 ((rd_T30 l0 0).f2) x5_2).f3))).heap[gb152]? = some (.cells #[.int .i8 ((rd_T38 ((rd_T30 l0 0).f2) x5_2).f0),.int .i8 ((rd_T38 ((rd_T30 l0 0).f2) x5_2).f1),.int .i8 ((rd_T38 ((rd_T30 l0 0).f2) x5_2).f2),.int .i8 ((rd_T38 ((rd_T30 l0 0).f2) x5_2).f3)] 38 (0,0))):=⟨by (with_reducible repeat (first|apply kN_|apply kD_|apply kA_));refine blk_put (cs:=#[.int .i8 ((rd_T38 ((rd_T30 l0 0).f2) x5_2).f0),.int .i8 ((rd_T38 ((rd_T30 l0 0).f2) x5_2).f1),.int .i8 ((rd_T38 ((rd_T30 l0 0).f2) x5_2).f2),.int .i8 0]) ?_ 3 _ rfl;(with_reducible repeat (first|apply kN_|apply kD_|apply kA_));refine blk_put (cs:=#[.int .i8 ((rd_T38 ((rd_T30 l0 0).f2) x5_2).f0),.int .i8 ((rd_T38 ((rd_T30 l0 0).f2) x5_2).f1),.int .i8 0,.int .i8 0]) ?_ 2 _ rfl;(with_reducible repeat (first|apply kN_|apply kD_|apply kA_));refine blk_put (cs:=#[.int .i8 ((rd_T38 ((rd_T30 l0 0).f2) x5_2).f0),.int .i8 0,.int .i8 0,.int .i8 0]) ?_ 1 _ rfl;(with_reducible repeat (first|apply kN_|apply kD_|apply kA_));refine blk_put (cs:=#[.int .i8 0,.int .i8 0,.int .i8 0,.int .i8 0]) ?_ 0 _ rfl;(with_reducible repeat (first|apply kN_|apply kD_|apply kA_));exact BK152.out⟩
           have n3_ : Aside0 (Below w.heap.size w ((((w19.setCell ⟨gb152,0,none⟩ (.int .i8 ((rd_T38 ((rd_T30 l0 0).f2) x5_2).f0))).setCell ⟨gb152,1,none⟩ (.int .i8 ((rd_T38 ((rd_T30 l0 0).f2) x5_2).f1))).setCell ⟨gb152,2,none⟩ (.int .i8 ((rd_T38 ((rd_T30 l0 0).f2) x5_2).f2))).setCell ⟨gb152,3,none⟩ (.int .i8 ((rd_T38 ((rd_T30 l0 0).f2) x5_2).f3)))):=⟨by repeat (first|(with_reducible first|exact HB.out|apply bA_|apply bN_|apply bD_|refine bS_ ?_ GE137.out|refine bS_ ?_ GE138.out|refine bS_ ?_ GE152.out)|exact HB.out)⟩
           (try clear BK137);(try clear BK138);(try clear BK152);(try clear HB);generalize ((((w19.setCell ⟨gb152,0,none⟩ (.int .i8 ((rd_T38 ((rd_T30 l0 0).f2) x5_2).f0))).setCell ⟨gb152,1,none⟩ (.int .i8 ((rd_T38 ((rd_T30 l0 0).f2) x5_2).f1))).setCell ⟨gb152,2,none⟩ (.int .i8 ((rd_T38 ((rd_T30 l0 0).f2) x5_2).f2))).setCell ⟨gb152,3,none⟩ (.int .i8 ((rd_T38 ((rd_T30 l0 0).f2) x5_2).f3))) = w37 at n0_ n1_ n2_ n3_ ⊢;have BK137:=n0_;have BK138:=n1_;have BK152:=n2_;have HB:=n3_;clear n0_ n1_ n2_ n3_;have n0_:=am_ (kD_ BK137.out);have n1_:=am_ (kD_ BK138.out);have n2_:=am_ (kD_ BK152.out);have n3_:=am_ (bD_ HB.out);clear BK137;clear BK138;clear BK152;clear HB;have BK137:=n0_;have BK138:=n1_;have BK152:=n2_;have HB:=n3_;clear n0_ n1_ n2_ n3_;refine start_ (n:=21) (S:=fun w'=>w'.cell? ⟨gb152,0,none⟩ = some (.int .i8 ((rd_T38 ((rd_T30 l0 0).f2) x5_2).f0)) ∧ w'.cell? ⟨gb152,1,none⟩ = some (.int .i8 ((rd_T38 ((rd_T30 l0 0).f2) x5_2).f1)) ∧ w'.cell? ⟨gb152,2,none⟩ = some (.int .i8 ((rd_T38 ((rd_T30 l0 0).f2) x5_2).f2)) ∧ w'.cell? ⟨gb152,3,none⟩ = some (.int .i8 ((rd_T38 ((rd_T30 l0 0).f2) x5_2).f3))) (ds:=[]) (mB_ 21 0) (by kernel_rfl) rfl rfl ⟨(kC_ BK152.out 0).trans rfl,(kC_ BK152.out 1).trans rfl,(kC_ BK152.out 2).trans rfl,(kC_ BK152.out 3).trans rfl⟩ (fun hHeld=>?_);refine with_tabW spec_l01Lay.tab8 spec_l01Lay.bits8 (fun HT_ HW_=>?_);generalize w37.drew = w38 at BK137 BK138 BK152 HB hHeld ⊢;refine pure_ (i:=0) (N:=some 51) (v:=?_) (a':=?_) (mB_ 21 1) rfl rfl (any_of HT_.out (by kernel_rfl)) (fun _ _ _ h=>h) (Or.inl ⟨by rfl,?_⟩) ?_ ?_;rotate_left
           ·
            intro w'
            go_simp
            with_reducible rfl
           rotate_left
           ·
            simp only [Act.put,z1_,z2_,z3_,i64_w,i32_w]
            rfl
           refine take_ (i:=1) (N:=some 52) (v:=?_) (a':=?_) (mB_ 21 3) rfl rfl (take_ofW HT_.out HW_.out (by kernel_rfl)) (fun _ _ _ h=>h) (Or.inl ⟨by rfl,?_⟩) hHeld ?_ ?_;rotate_left
           ·
            rintro w' ⟨s0,s1,s2,s3⟩
            go_simp
            with_reducible rfl
           rotate_left
           ·
            simp only [Act.put,z1_,z2_,z3_,i64_w,i32_w]
            rfl
           refine one_ (i:=2) (N:=some 53) (mB_ 21 7) rfl rfl (one_of HT_.out (by kernel_rfl)) (by decide) (fun K hK=>?_);refine goes_ Try.func78 (by kernel_rfl) rfl #[.pointer (some ad147),.agg #[.int .i8 ((rd_T38 ((rd_T30 l0 0).f2) x5_2).f0),.int .i8 ((rd_T38 ((rd_T30 l0 0).f2) x5_2).f1),.int .i8 ((rd_T38 ((rd_T30 l0 0).f2) x5_2).f2),.int .i8 ((rd_T38 ((rd_T30 l0 0).f2) x5_2).f3)]] (by rfl) rfl rfl (by (try simp only [List.map_toArray,List.map_cons,List.map_nil]);first|done|rfl|(simp only [List.length_drop,List.length_take];rfl)) ?_
           with_reducible refine (spec_l01Lies.calls _ c0 l0 ((rd_T38 ((rd_T30 l0 0).f2) x5_2).f0) ((rd_T38 ((rd_T30 l0 0).f2) x5_2).f1) ((rd_T38 ((rd_T30 l0 0).f2) x5_2).f2) ((rd_T38 ((rd_T30 l0 0).f2) x5_2).f3) false _ ?side1 ?side2 A23.out).mono ?_
           (case side1=>repeat (first|exact (Kd.C_below HR0.out HB.out)|(with_reducible refine Kd.C_alloc ?_ _)|(with_reducible refine Kd.C_drewN ?_ _)|(with_reducible refine Kd.C_drew ?_)))
           (case side2=>exact HC0.out)
           rintro e w39 ⟨rfl,hb⟩;refine ⟨_,rfl,?_⟩;have n0_:=am_ (blk_below (g:=gb137) (o:=.cells (arrC .i64 x138000_2) 83 (0,0)) (by (with_reducible repeat (first|apply kN_|apply kD_|apply kA_));exact BK137.out) hb);have n1_:=am_ (blk_below (g:=gb138) (o:=.cells (arrC .i64 x139000_2) 83 (0,0)) (by (with_reducible repeat (first|apply kN_|apply kD_|apply kA_));exact BK138.out) hb);have n2_:=am_ (blk_below (g:=gb152) (o:=.cells #[.int .i8 ((rd_T38 ((rd_T30 l0 0).f2) x5_2).f0),.int .i8 ((rd_T38 ((rd_T30 l0 0).f2) x5_2).f1),.int .i8 ((rd_T38 ((rd_T30 l0 0).f2) x5_2).f2),.int .i8 ((rd_T38 ((rd_T30 l0 0).f2) x5_2).f3)] 38 (0,0)) (by (with_reducible repeat (first|apply kN_|apply kD_|apply kA_));exact BK152.out) hb);have n3_:=am_ (bT_ (by repeat (first|(with_reducible first|exact HB.out|apply bA_|apply bN_|apply bD_|refine bS_ ?_ GE137.out|refine bS_ ?_ GE138.out|refine bS_ ?_ GE152.out)|exact HB.out)) hb);clear BK137;clear BK138;clear BK152;clear HB;have BK137:=n0_;have BK138:=n1_;have BK152:=n2_;have HB:=n3_;clear n0_ n1_ n2_ n3_;(try clear hb);(try clear hb2);(try clear hk);(try clear hi);refine hK.out _ _ ⟨(kC_ BK152.out 0).trans rfl,(kC_ BK152.out 1).trans rfl,(kC_ BK152.out 2).trans rfl,(kC_ BK152.out 3).trans rfl⟩ (fun hHeld=>?_);clear hK K;refine norm_ (a':=?_) ?_ ?_;rotate_left
           ·
            show Act.put _ (some 53) _ = _
            simp only [Act.put,z1_,z2_,z3_,i64_w,i32_w]
            rfl
           refine pure_ (i:=3) (N:=some 54) (v:=?_) (a':=?_) (mB_ 21 15) rfl rfl (any_of HT_.out (by kernel_rfl)) (fun _ _ _ h=>h) (Or.inl ⟨by rfl,?_⟩) ?_ ?_;rotate_left
           ·
            intro w'
            go_simp
            with_reducible rfl
           rotate_left
           ·
            simp only [Act.put,z1_,z2_,z3_,i64_w,i32_w]
            rfl
           refine pure_ (i:=4) (N:=some 55) (v:=?_) (a':=?_) (mB_ 21 31) rfl rfl (any_of HT_.out (by kernel_rfl)) (fun _ _ _ h=>h) (Or.inl ⟨by rfl,?_⟩) ?_ ?_;rotate_left
           ·
            intro w'
            go_simp
            with_reducible rfl
           rotate_left
           ·
            simp only [Act.put,z1_,z2_,z3_,i64_w,i32_w]
            rfl
           refine pure_ (i:=5) (N:=some 56) (v:=undef) (a':=?_) (mB_ 21 63) rfl rfl (any_of HT_.out (by kernel_rfl)) (fun _ _ _ h=>h) (Or.inr ⟨by rfl,rfl⟩) ?_ ?_;rotate_left
           ·
            simp only [Act.put,z1_,z2_,z3_,i64_w,i32_w]
            rfl
           refine pure_ (i:=6) (N:=some 57) (v:=undef) (a':=?_) (mB_ 21 127) rfl rfl (any_of HT_.out (by kernel_rfl)) (fun _ _ _ h=>h) (Or.inr ⟨by rfl,rfl⟩) ?_ ?_;rotate_left
           ·
            simp only [Act.put,z1_,z2_,z3_,i64_w,i32_w]
            rfl
           refine pure_ (i:=7) (N:=some 58) (v:=undef) (a':=?_) (mB_ 21 255) rfl rfl (any_of HT_.out (by kernel_rfl)) (fun _ _ _ h=>h) (Or.inr ⟨by rfl,rfl⟩) ?_ ?_;rotate_left
           ·
            simp only [Act.put,z1_,z2_,z3_,i64_w,i32_w]
            rfl
           refine pure_ (i:=8) (N:=some 59) (v:=undef) (a':=?_) (mB_ 21 511) rfl rfl (any_of HT_.out (by kernel_rfl)) (fun _ _ _ h=>h) (Or.inr ⟨by rfl,rfl⟩) ?_ ?_;rotate_left
           ·
            simp only [Act.put,z1_,z2_,z3_,i64_w,i32_w]
            rfl
           refine pure_ (i:=9) (N:=some 60) (v:=undef) (a':=?_) (mB_ 21 1023) rfl rfl (any_of HT_.out (by kernel_rfl)) (fun _ _ _ h=>h) (Or.inr ⟨by rfl,rfl⟩) ?_ ?_;rotate_left
           ·
            simp only [Act.put,z1_,z2_,z3_,i64_w,i32_w]
            rfl
           refine pure_ (i:=10) (N:=some 61) (v:=undef) (a':=?_) (mB_ 21 2047) rfl rfl (any_of HT_.out (by kernel_rfl)) (fun _ _ _ h=>h) (Or.inr ⟨by rfl,rfl⟩) ?_ ?_;rotate_left
           ·
            simp only [Act.put,z1_,z2_,z3_,i64_w,i32_w]
            rfl
           refine pure_ (i:=11) (N:=some 62) (v:=undef) (a':=?_) (mB_ 21 4095) rfl rfl (any_of HT_.out (by kernel_rfl)) (fun _ _ _ h=>h) (Or.inr ⟨by rfl,rfl⟩) ?_ ?_;rotate_left
           ·
            simp only [Act.put,z1_,z2_,z3_,i64_w,i32_w]
            rfl
           refine pure_ (i:=12) (N:=some 63) (v:=undef) (a':=?_) (mB_ 21 8191) rfl rfl (any_of HT_.out (by kernel_rfl)) (fun _ _ _ h=>h) (Or.inr ⟨by rfl,rfl⟩) ?_ ?_;rotate_left
           ·
            simp only [Act.put,z1_,z2_,z3_,i64_w,i32_w]
            rfl
           refine pure_ (i:=13) (N:=some 64) (v:=undef) (a':=?_) (mB_ 21 16383) rfl rfl (any_of HT_.out (by kernel_rfl)) (fun _ _ _ h=>h) (Or.inr ⟨by rfl,rfl⟩) ?_ ?_;rotate_left
           ·
            simp only [Act.put,z1_,z2_,z3_,i64_w,i32_w]
            rfl
           refine pure_ (i:=14) (N:=some 65) (v:=undef) (a':=?_) (mB_ 21 32767) rfl rfl (any_of HT_.out (by kernel_rfl)) (fun _ _ _ h=>h) (Or.inr ⟨by rfl,rfl⟩) ?_ ?_;rotate_left
           ·
            simp only [Act.put,z1_,z2_,z3_,i64_w,i32_w]
            rfl
           refine pure_ (i:=15) (N:=some 66) (v:=undef) (a':=?_) (mB_ 21 65535) rfl rfl (any_of HT_.out (by kernel_rfl)) (fun _ _ _ h=>h) (Or.inr ⟨by rfl,rfl⟩) ?_ ?_;rotate_left
           ·
            simp only [Act.put,z1_,z2_,z3_,i64_w,i32_w]
            rfl
           refine pure_ (i:=16) (N:=some 67) (v:=undef) (a':=?_) (mB_ 21 131071) rfl rfl (any_of HT_.out (by kernel_rfl)) (fun _ _ _ h=>h) (Or.inr ⟨by rfl,rfl⟩) ?_ ?_;rotate_left
           ·
            simp only [Act.put,z1_,z2_,z3_,i64_w,i32_w]
            rfl
           refine pure_ (i:=17) (N:=some 68) (v:=undef) (a':=?_) (mB_ 21 262143) rfl rfl (any_of HT_.out (by kernel_rfl)) (fun _ _ _ h=>h) (Or.inr ⟨by rfl,rfl⟩) ?_ ?_;rotate_left
           ·
            simp only [Act.put,z1_,z2_,z3_,i64_w,i32_w]
            rfl
           refine pure_ (i:=18) (N:=some 69) (v:=undef) (a':=?_) (mB_ 21 524287) rfl rfl (any_of HT_.out (by kernel_rfl)) (fun _ _ _ h=>h) (Or.inr ⟨by rfl,rfl⟩) ?_ ?_;rotate_left
           ·
            simp only [Act.put,z1_,z2_,z3_,i64_w,i32_w]
            rfl
           refine pure_ (i:=19) (N:=some 70) (v:=undef) (a':=?_) (mB_ 21 1048575) rfl rfl (any_of HT_.out (by kernel_rfl)) (fun _ _ _ h=>h) (Or.inr ⟨by rfl,rfl⟩) ?_ ?_;rotate_left
           ·
            simp only [Act.put,z1_,z2_,z3_,i64_w,i32_w]
            rfl
           refine pure_ (i:=20) (N:=some 71) (v:=?_) (a':=?_) (mB_ 21 2097151) rfl rfl (any_of HT_.out (by kernel_rfl)) (fun _ _ _ h=>h) (Or.inl ⟨by rfl,?_⟩) ?_ ?_;rotate_left
           ·
            intro w'
            go_simp
            with_reducible rfl
           rotate_left
           ·
            simp only [Act.put,z1_,z2_,z3_,i64_w,i32_w]
            rfl
           refine done_ (done_of HT_.out (by kernel_rfl)) ?_
           try go_wp2
           go_meet
           case rel=>exact ⟨_,(true),(by first|rfl|(simp;done)|(simp [*];done)),H',⟨by have:=HJ1.out;have:=HK2.out;first|omega|exact Nat.le_refl _⟩,⟨by (with_reducible repeat (first|apply kN_|apply kD_|apply kA_));exact BK137.out⟩,⟨by (with_reducible repeat (first|apply kN_|apply kD_|apply kA_));exact BK138.out⟩,⟨by (with_reducible repeat (first|apply kN_|apply kD_|apply kA_));exact BK152.out⟩,⟨by repeat (first|(with_reducible first|exact HB.out|apply bA_|apply bN_|apply bD_|refine bS_ ?_ GE137.out|refine bS_ ?_ GE138.out|refine bS_ ?_ GE152.out)|exact HB.out)⟩⟩
         case rest =>
          clear HC18;(try clear c1);(try clear p1);(try clear q1);(try clear hx1);(try clear c2);(try clear p2);(try clear c7);(try clear c8);(try clear c15);(try clear p15);(try clear q15);(try clear hx15);(try clear c24);(try clear c25);(try clear c25b0);(try clear c27);(try clear c28);(try clear hx154_0);(try clear hx154_1);(try clear hx154_2);(try clear hx155_0);(try clear hx155_1);(try clear hx155_2);(try clear hx156_0);(try clear hx156_1);(try clear hx156_2);(try clear hx156_3);(try clear p156);(try clear q156);obtain ⟨kq,x71_17,rfl,HA,HJ17,BK137,BK138,BK152,HB⟩:=hcut
          cases kq with
          | zero=>exact absurd HA.out (by simp [spec_l01Lay.j2])
          | succ kj17 =>
           have H:=HA.out;clear HA;simp only [spec_l01Lay.j2] at H
           by_cases c40 : x71_17 = true
           ·
            subst c40;have H1 : (if x139000_2.length = 144 then (if x138000_2.length = 144 then (some (x139000_2,false)) else (none)) else (none)) = some (r1,r2):=by rw [if_pos rfl] at H;exact H
            clear H;have H:=H1;clear H1
            by_cases c41 : x139000_2.length = 144
            ·
             rw [if_pos c41] at H;have c41b0:=eq_true c41;have c41b1 : decide (x139000_2.length = 144) = true:=decide_eq_true c41;clear c41
             by_cases c42 : x138000_2.length = 144
             ·
              rw [if_pos c42] at H;have c42b0:=eq_true c42;have c42b1 : decide (x138000_2.length = 144) = true:=decide_eq_true c42;clear c42;simp only [Option.some.injEq,Prod.mk.injEq] at H;obtain ⟨rfl,rfl⟩:=H
              go_wp2_with (first|((with_reducible refine gate_dst (N:=72) rfl ?_);(try (refine gate_guard (by rfl) ?_;dsimp only));refine arr_load (p:=4) (n:=144) (k:=.i64) (g:=gb138) (l:=x139000_2) ?hg (N:=72) ?hd (t:=83) ?ho ?hp (by (with_reducible repeat (first|apply kN_|apply kD_|apply kA_));exact BK138.out) Try.underlying83 (by kernel_rfl) (od_ (by first|(with_reducible assumption)|assumption)) ?_;(case hd=>rfl);(case hg=>rfl);(case ho=>rfl);(case hp=>rfl))|((with_reducible refine gate_store (t:=83) (p:=2) rfl ?_);refine arr_store (p:=2) (v:=?vv_w43) (n:=144) (k:=.i64) (g:=gb137) (l:=x138000_2) (l2:=x139000_2) ?hg ?hn (t:=83) ?ho ?hp ?hv (by (with_reducible repeat (first|apply kN_|apply kD_|apply kA_));exact BK137.out) (by kernel_rfl) (od_ (by first|(with_reducible assumption)|assumption)) (od_ (by first|(with_reducible assumption)|assumption)) ?_;(case ho=>rfl);(case hg=>rfl);(case hn=>rfl);(case hp=>rfl);(case hv=>rfl);intro w43 hg hx;have n0_:=am_ (hx);have n1_:=am_ (blk_grown (g:=gb138) (o:=.cells (arrC .i64 x139000_2) 83 (0,0)) (by (with_reducible repeat (first|apply kN_|apply kD_|apply kA_));exact BK138.out) hg (fun e_=>NB138_137.out (Option.some.inj e_)));have n2_:=am_ (blk_grown (g:=gb152) (o:=.cells #[.int .i8 ((rd_T38 ((rd_T30 l0 0).f2) x5_2).f0),.int .i8 ((rd_T38 ((rd_T30 l0 0).f2) x5_2).f1),.int .i8 ((rd_T38 ((rd_T30 l0 0).f2) x5_2).f2),.int .i8 ((rd_T38 ((rd_T30 l0 0).f2) x5_2).f3)] 38 (0,0)) (by (with_reducible repeat (first|apply kN_|apply kD_|apply kA_));exact BK152.out) hg (fun e_=>NB152_137.out (Option.some.inj e_)));have n3_:=am_ (Below.grown (by repeat (first|(with_reducible first|exact HB.out|apply bA_|apply bN_|apply bD_|refine bS_ ?_ GE137.out|refine bS_ ?_ GE138.out|refine bS_ ?_ GE152.out)|exact HB.out)) hg (below_size (by repeat (first|(with_reducible first|exact HB.out|apply bA_|apply bN_|apply bD_|refine bS_ ?_ GE137.out|refine bS_ ?_ GE138.out|refine bS_ ?_ GE152.out)|exact HB.out))) (fun k_ e_=>by cases e_;exact GE137.out));clear BK137;clear BK138;clear BK152;clear HB;have BK137:=n0_;have BK138:=n1_;have BK152:=n2_;have HB:=n3_;clear n0_ n1_ n2_ n3_;clear hg hx))
              refine bodyPost_ret (results_ct rfl _ _ gb137 83 (arrC .i64 x139000_2) (0,0) _ rfl (by (with_reducible repeat (first|apply kN_|apply kD_|apply kA_));exact BK137.out) Try.underlying83 rfl (by first|(rw [arrC_size,(od_ (by first|(with_reducible assumption)|assumption) : x139000_2.length = 144)];kernel_rfl)|kernel_rfl)) rfl ?_;exact ⟨by first|rfl|(simp [errW_none,errW_some] <;> rfl)|(simp [*,errW_none,errW_some] <;> rfl),by repeat (first|(with_reducible first|exact HB.out|apply bA_|apply bN_|apply bD_|refine bS_ ?_ GE137.out|refine bS_ ?_ GE138.out|refine bS_ ?_ GE152.out)|exact HB.out)⟩
             ·
              rw [if_neg c42] at H;exact absurd H (by simp)
            ·
             rw [if_neg c41] at H;exact absurd H (by simp)
           ·
            replace c40:=Bool.eq_false_iff.mpr c40;subst c40;have H1 : (spec_l01Lay.l1 kj17 l0 x5_2 ((rd_T38 ((rd_T30 l0 0).f2) x5_2).f1) x138000_2 x139000_2 ((rd_T38 ((rd_T30 l0 0).f2) x5_2).f0) ((rd_T38 ((rd_T30 l0 0).f2) x5_2).f1) ((rd_T38 ((rd_T30 l0 0).f2) x5_2).f2) ((rd_T38 ((rd_T30 l0 0).f2) x5_2).f3)) = some (r1,r2):=by rw [if_neg (show ¬ (false = true) by decide)] at H;exact H
            clear H;have H:=H1;clear H1;have H':=am_ H;clear H;have hnb44:=NB152_137.out;have hnc44:=NB137_152.out;have hnb45:=NB152_138.out;have hnc45:=NB138_152.out;have hcz46_0 : wc.cell? ⟨gb152,0,none⟩ = some (.int .i8 ((rd_T38 ((rd_T30 l0 0).f2) x5_2).f0)):=(kC_ BK152.out 0).trans rfl;have hcz46_1 : wc.cell? ⟨gb152,1,none⟩ = some (.int .i8 ((rd_T38 ((rd_T30 l0 0).f2) x5_2).f1)):=(kC_ BK152.out 1).trans rfl;have hcz46_2 : wc.cell? ⟨gb152,2,none⟩ = some (.int .i8 ((rd_T38 ((rd_T30 l0 0).f2) x5_2).f2)):=(kC_ BK152.out 2).trans rfl;have hcz46_3 : wc.cell? ⟨gb152,3,none⟩ = some (.int .i8 ((rd_T38 ((rd_T30 l0 0).f2) x5_2).f3)):=(kC_ BK152.out 3).trans rfl;have hfz46_0:=kF_ BK152.out 0;have hfz46_1:=kF_ BK152.out 1;have hfz46_2:=kF_ BK152.out 2;have hfz46_3:=kF_ BK152.out 3
            go_wp2
            go_loopg [7] kj17 (fun kq v7 w'=>∃ (x7_4 : Int) (x138000_4 : List Int) (x139000_4 : List Int),v7 = .int .i8 x7_4 ∧ Aside0 (spec_l01Lay.l1 kq l0 x5_2 x7_4 x138000_4 x139000_4 ((rd_T38 ((rd_T30 l0 0).f2) x5_2).f0) ((rd_T38 ((rd_T30 l0 0).f2) x5_2).f1) ((rd_T38 ((rd_T30 l0 0).f2) x5_2).f2) ((rd_T38 ((rd_T30 l0 0).f2) x5_2).f3) = some (r1,r2)) ∧ Aside0 (kq≤kj17) ∧ Aside0 (w'.heap[gb137]? = some (.cells (arrC .i64 x138000_4) 83 (0,0))) ∧ Aside0 (w'.heap[gb138]? = some (.cells (arrC .i64 x139000_4) 83 (0,0))) ∧ Aside0 (w'.heap[gb152]? = some (.cells #[.int .i8 ((rd_T38 ((rd_T30 l0 0).f2) x5_2).f0),.int .i8 ((rd_T38 ((rd_T30 l0 0).f2) x5_2).f1),.int .i8 ((rd_T38 ((rd_T30 l0 0).f2) x5_2).f2),.int .i8 ((rd_T38 ((rd_T30 l0 0).f2) x5_2).f3)] 38 (0,0))) ∧ Aside0 (Below w.heap.size w w'))
            case atStart=>exact ⟨(((rd_T38 ((rd_T30 l0 0).f2) x5_2).f1)),(x138000_2),(x139000_2),(by first|rfl|(simp;done)|(simp [*];done)),H',⟨Nat.le_refl _⟩,⟨by (with_reducible repeat (first|apply kN_|apply kD_|apply kA_));exact BK137.out⟩,⟨by (with_reducible repeat (first|apply kN_|apply kD_|apply kA_));exact BK138.out⟩,⟨by (with_reducible repeat (first|apply kN_|apply kD_|apply kA_));exact BK152.out⟩,⟨by repeat (first|(with_reducible first|exact HB.out|apply bA_|apply bN_|apply bD_|refine bS_ ?_ GE137.out|refine bS_ ?_ GE138.out|refine bS_ ?_ GE152.out)|exact HB.out)⟩⟩
            case round =>
             clear H';(try clear c1);(try clear p1);(try clear q1);(try clear hx1);(try clear c2);(try clear p2);(try clear c4);(try clear c7);(try clear c8);(try clear c15);(try clear p15);(try clear q15);(try clear hx15);(try clear c24);(try clear c25);(try clear c25b0);(try clear c27);(try clear c28);(try clear c40);(try clear c41);(try clear c41b0);(try clear c41b1);(try clear c42);(try clear c42b0);(try clear c42b1);(try clear c44);(try clear c45);(try clear hcz46_0);(try clear hcz46_1);(try clear hcz46_2);(try clear hcz46_3);(try clear hfz46_0);(try clear hfz46_1);(try clear hfz46_2);(try clear hfz46_3);(try clear hx154_0);(try clear hx154_1);(try clear hx154_2);(try clear hx155_0);(try clear hx155_1);(try clear hx155_2);(try clear hx156_0);(try clear hx156_1);(try clear hx156_2);(try clear hx156_3);(try clear p1);(try clear p15);(try clear p156);(try clear p2);(try clear q1);(try clear q15);(try clear q156);obtain ⟨x7_4,x138000_4,x139000_4,rfl,HA,HK4,BK137,BK138,BK152,HB⟩:=hrel
             cases gk with
             | zero=>exact absurd HA.out (by simp [spec_l01Lay.l1])
             | succ k4 =>
              have H:=HA.out;clear HA;simp only [spec_l01Lay.l1] at H
              by_cases c47 : x7_4 < (IntKind.i8.wrap (((rd_T38 ((rd_T30 l0 0).f2) x5_2).f1) + ((rd_T38 ((rd_T30 l0 0).f2) x5_2).f3)))
              ·
               rw [if_pos c47] at H;have c47b0 : decide (x7_4 < (IntKind.i8.wrap (((rd_T38 ((rd_T30 l0 0).f2) x5_2).f1) + ((rd_T38 ((rd_T30 l0 0).f2) x5_2).f3)))) = true:=decide_eq_true c47;clear c47;have H':=am_ H;clear H;have hnb48:=NB152_137.out;have hnc48:=NB137_152.out;have hnb49:=NB152_138.out;have hnc49:=NB138_152.out;have hcz50_0 : wr.cell? ⟨gb152,0,none⟩ = some (.int .i8 ((rd_T38 ((rd_T30 l0 0).f2) x5_2).f0)):=(kC_ BK152.out 0).trans rfl;have hcz50_1 : wr.cell? ⟨gb152,1,none⟩ = some (.int .i8 ((rd_T38 ((rd_T30 l0 0).f2) x5_2).f1)):=(kC_ BK152.out 1).trans rfl;have hcz50_2 : wr.cell? ⟨gb152,2,none⟩ = some (.int .i8 ((rd_T38 ((rd_T30 l0 0).f2) x5_2).f2)):=(kC_ BK152.out 2).trans rfl;have hcz50_3 : wr.cell? ⟨gb152,3,none⟩ = some (.int .i8 ((rd_T38 ((rd_T30 l0 0).f2) x5_2).f3)):=(kC_ BK152.out 3).trans rfl;have hfz50_0:=kF_ BK152.out 0;have hfz50_1:=kF_ BK152.out 1;have hfz50_2:=kF_ BK152.out 2;have hfz50_3:=kF_ BK152.out 3
               go_wp2
               go_loopg [8] k4 (fun kq v8 w'=>∃ (x8_5 : Int) (x138000_5 : List Int) (x139000_5 : List Int),v8 = .int .i8 x8_5 ∧ Aside0 (spec_l01Lay.l2 kq l0 x5_2 x7_4 x8_5 x138000_5 x139000_5 ((rd_T38 ((rd_T30 l0 0).f2) x5_2).f0) ((rd_T38 ((rd_T30 l0 0).f2) x5_2).f1) ((rd_T38 ((rd_T30 l0 0).f2) x5_2).f2) ((rd_T38 ((rd_T30 l0 0).f2) x5_2).f3) = some (r1,r2)) ∧ Aside0 (kq≤k4) ∧ Aside0 (w'.heap[gb137]? = some (.cells (arrC .i64 x138000_5) 83 (0,0))) ∧ Aside0 (w'.heap[gb138]? = some (.cells (arrC .i64 x139000_5) 83 (0,0))) ∧ Aside0 (w'.heap[gb152]? = some (.cells #[.int .i8 ((rd_T38 ((rd_T30 l0 0).f2) x5_2).f0),.int .i8 ((rd_T38 ((rd_T30 l0 0).f2) x5_2).f1),.int .i8 ((rd_T38 ((rd_T30 l0 0).f2) x5_2).f2),.int .i8 ((rd_T38 ((rd_T30 l0 0).f2) x5_2).f3)] 38 (0,0))) ∧ Aside0 (Below w.heap.size w w'))
               case atStart=>exact ⟨(((rd_T38 ((rd_T30 l0 0).f2) x5_2).f0)),(x138000_4),(x139000_4),(by first|rfl|(simp;done)|(simp [*];done)),H',⟨Nat.le_refl _⟩,⟨by (with_reducible repeat (first|apply kN_|apply kD_|apply kA_));exact BK137.out⟩,⟨by (with_reducible repeat (first|apply kN_|apply kD_|apply kA_));exact BK138.out⟩,⟨by (with_reducible repeat (first|apply kN_|apply kD_|apply kA_));exact BK152.out⟩,⟨by repeat (first|(with_reducible first|exact HB.out|apply bA_|apply bN_|apply bD_|refine bS_ ?_ GE137.out|refine bS_ ?_ GE138.out|refine bS_ ?_ GE152.out)|exact HB.out)⟩⟩
               case round =>
                clear H';(try clear c1);(try clear p1);(try clear q1);(try clear hx1);(try clear c2);(try clear p2);(try clear c4);(try clear c7);(try clear c8);(try clear c15);(try clear p15);(try clear q15);(try clear hx15);(try clear c24);(try clear c25);(try clear c25b0);(try clear c27);(try clear c28);(try clear c40);(try clear c41);(try clear c41b0);(try clear c41b1);(try clear c42);(try clear c42b0);(try clear c42b1);(try clear c44);(try clear c45);(try clear c47);(try clear c47b0);(try clear c48);(try clear c49);(try clear hcz46_0);(try clear hcz46_1);(try clear hcz46_2);(try clear hcz46_3);(try clear hcz50_0);(try clear hcz50_1);(try clear hcz50_2);(try clear hcz50_3);(try clear hfz46_0);(try clear hfz46_1);(try clear hfz46_2);(try clear hfz46_3);(try clear hfz50_0);(try clear hfz50_1);(try clear hfz50_2);(try clear hfz50_3);(try clear hx154_0);(try clear hx154_1);(try clear hx154_2);(try clear hx155_0);(try clear hx155_1);(try clear hx155_2);(try clear hx156_0);(try clear hx156_1);(try clear hx156_2);(try clear hx156_3);(try clear p1);(try clear p15);(try clear p156);(try clear p2);(try clear q1);(try clear q15);(try clear q156);obtain ⟨x8_5,x138000_5,x139000_5,rfl,HA,HK5,BK137,BK138,BK152,HB⟩:=hrel
                cases gk with
                | zero=>exact absurd HA.out (by simp [spec_l01Lay.l2])
                | succ k5 =>
                 have H:=HA.out;clear HA;simp only [spec_l01Lay.l2] at H
                 by_cases c51 : x8_5 < (IntKind.i8.wrap (((rd_T38 ((rd_T30 l0 0).f2) x5_2).f0) + ((rd_T38 ((rd_T30 l0 0).f2) x5_2).f2)))
                 ·
                  rw [if_pos c51] at H;have c51b0 : decide (x8_5 < (IntKind.i8.wrap (((rd_T38 ((rd_T30 l0 0).f2) x5_2).f0) + ((rd_T38 ((rd_T30 l0 0).f2) x5_2).f2)))) = true:=decide_eq_true c51;clear c51
                  by_cases c52 : 0≤x7_4
                  ·
                   rw [if_pos c52] at H;have c52b0 : decide (0≤x7_4) = true:=decide_eq_true c52;clear c52
                   by_cases c53 : x7_4 < 12
                   ·
                    rw [if_pos c53] at H;have c53b0 : decide (x7_4 < 12) = true:=decide_eq_true c53;clear c53
                    by_cases c55 : 0≤x8_5
                    ·
                     rw [if_pos c55] at H;have c55b0 : decide (0≤x8_5) = true:=decide_eq_true c55;clear c55
                     by_cases c56 : x8_5 < 12
                     ·
                      rw [if_pos c56] at H;have c56b0 : decide (x8_5 < 12) = true:=decide_eq_true c56;clear c56
                      by_cases c58 : x7_4 * 12 + x8_5 < (x139000_5.length : Int)
                      ·
                       rw [if_pos c58] at H;have c58b0:=eq_true c58;have c58b1 : decide (x7_4 * 12 + x8_5 < (x139000_5.length : Int)) = true:=decide_eq_true c58
                       by_cases c59 : (rd x139000_5 (x7_4 * 12 + x8_5)) = 0
                       ·
                        rw [if_pos c59] at H;have c59b0 : ((rd x139000_5 (x7_4 * 12 + x8_5)) == 0) = true:=beq_iff_eq.mpr c59;have c59b1 : ((rd x139000_5 (x7_4 * 12 + x8_5)) != 0) = false:=bne_eq_false_iff_eq.mpr c59;clear c59;obtain ⟨y158,hy158⟩ : ∃ y_ : List Int,y_ = (x139000_5.set (x7_4 * 12 + x8_5 : Int).toNat (wrap64 (x5_2 + 1))):=⟨_,rfl⟩
                        replace H : (spec_l01Lay.l2 k5 l0 x5_2 x7_4 (IntKind.i8.wrap (x8_5 + 1)) x138000_5 y158 ((rd_T38 ((rd_T30 l0 0).f2) x5_2).f0) ((rd_T38 ((rd_T30 l0 0).f2) x5_2).f1) ((rd_T38 ((rd_T30 l0 0).f2) x5_2).f2) ((rd_T38 ((rd_T30 l0 0).f2) x5_2).f3)) = some (r1,r2):=by first|(rw [hy158];with_reducible exact H)|(have H2_:=(Option.bind_some _ _).symm.trans H;rw [hy158];with_reducible exact H2_)|(have H2_:=(Option.bind_some _ _).symm.trans H;with_reducible exact H2_)|with_reducible exact H|(rw [hy158];exact H)|exact H
                        have Ny158:=am_ hy158;clear hy158;have H':=am_ H;clear H;have hnb62:=NB152_137.out;have hnc62:=NB137_152.out;have hnb63:=NB152_138.out;have hnc63:=NB138_152.out;have hcz64_0 : wr.cell? ⟨gb152,0,none⟩ = some (.int .i8 ((rd_T38 ((rd_T30 l0 0).f2) x5_2).f0)):=(kC_ BK152.out 0).trans rfl;have hcz64_1 : wr.cell? ⟨gb152,1,none⟩ = some (.int .i8 ((rd_T38 ((rd_T30 l0 0).f2) x5_2).f1)):=(kC_ BK152.out 1).trans rfl;have hcz64_2 : wr.cell? ⟨gb152,2,none⟩ = some (.int .i8 ((rd_T38 ((rd_T30 l0 0).f2) x5_2).f2)):=(kC_ BK152.out 2).trans rfl;have hcz64_3 : wr.cell? ⟨gb152,3,none⟩ = some (.int .i8 ((rd_T38 ((rd_T30 l0 0).f2) x5_2).f3)):=(kC_ BK152.out 3).trans rfl;have hfz64_0:=kF_ BK152.out 0;have hfz64_1:=kF_ BK152.out 1;have hfz64_2:=kF_ BK152.out 2;have hfz64_3:=kF_ BK152.out 3;have p54 : 0≤(x7_4 : Int):=od_ (by first|(with_reducible assumption)|assumption);have q54 : (x7_4 : Int) < (12 : Int):=od_ (by first|(with_reducible assumption)|assumption);replace p54:=eq_true p54;replace q54:=eq_true q54;have p57 : 0≤(x8_5 : Int):=od_ (by first|(with_reducible assumption)|assumption);have q57 : (x8_5 : Int) < (12 : Int):=od_ (by first|(with_reducible assumption)|assumption);replace p57:=eq_true p57;replace q57:=eq_true q57;have haz65 : wr.cell? ⟨gb138,x7_4.toNat * 12 + x8_5.toNat,none⟩ = some (.int .i64 (rd x139000_5 (x7_4 * 12 + x8_5))):=arr_cell (by (with_reducible repeat (first|apply kN_|apply kD_|apply kA_));exact BK138.out) (x7_4 * 12 + x8_5) _ (by have h0_ : (0 : Int)≤x7_4:=od_ (by first|(with_reducible assumption)|assumption);have h1_ : (0 : Int)≤x8_5:=od_ (by first|(with_reducible assumption)|assumption);omega) (od_ (by first|(with_reducible assumption)|assumption));have p60 : 0≤(x7_4 : Int):=od_ (by first|(with_reducible assumption)|assumption);have q60 : (x7_4 : Int) < (12 : Int):=od_ (by first|(with_reducible assumption)|assumption);replace p60:=eq_true p60;replace q60:=eq_true q60;have p61 : 0≤(x8_5 : Int):=od_ (by first|(with_reducible assumption)|assumption);have q61 : (x8_5 : Int) < (12 : Int):=od_ (by first|(with_reducible assumption)|assumption);replace p61:=eq_true p61;replace q61:=eq_true q61
                        go_wp2_with (first|((with_reducible refine gate_store (t:=2) (p:=107) rfl ?_);refine arr_put (te:=2) (p:=107) (v:=?vv_w66) (j:=?jj_w66) (k:=.i64) ?hg ?hn ?ho (i:=(x7_4 * 12 + x8_5)) (l:=x139000_5) (g:=gb138) (x:=(wrap64 (x5_2 + 1))) ?hp (by (with_reducible repeat (first|apply kN_|apply kD_|apply kA_));exact BK138.out) ?hj (od_ (by first|(with_reducible assumption)|assumption)) ?hr ?_;(case ho=>rfl);(case hg=>rfl);(case hn=>rfl);(case hp=>rfl);(case hj=>have h0_ : (0 : Int)≤x7_4:=od_ (by first|(with_reducible assumption)|assumption);have h1_ : (0 : Int)≤x8_5:=od_ (by first|(with_reducible assumption)|assumption);omega);(case hr=>intro hcell_ hfroz_;first|(go_simp;done)|(go_simp;rfl));intro w66 hg hx;rw [← Ny158.out] at hx;have n0_:=am_ (blk_grown (g:=gb137) (o:=.cells (arrC .i64 x138000_5) 83 (0,0)) (by (with_reducible repeat (first|apply kN_|apply kD_|apply kA_));exact BK137.out) hg (fun e_=>NB137_138.out (Option.some.inj e_)));have n1_:=am_ (hx);have n2_:=am_ (blk_grown (g:=gb152) (o:=.cells #[.int .i8 ((rd_T38 ((rd_T30 l0 0).f2) x5_2).f0),.int .i8 ((rd_T38 ((rd_T30 l0 0).f2) x5_2).f1),.int .i8 ((rd_T38 ((rd_T30 l0 0).f2) x5_2).f2),.int .i8 ((rd_T38 ((rd_T30 l0 0).f2) x5_2).f3)] 38 (0,0)) (by (with_reducible repeat (first|apply kN_|apply kD_|apply kA_));exact BK152.out) hg (fun e_=>NB152_138.out (Option.some.inj e_)));have n3_:=am_ (Below.grown (by repeat (first|(with_reducible first|exact HB.out|apply bA_|apply bN_|apply bD_|refine bS_ ?_ GE137.out|refine bS_ ?_ GE138.out|refine bS_ ?_ GE152.out)|exact HB.out)) hg (below_size (by repeat (first|(with_reducible first|exact HB.out|apply bA_|apply bN_|apply bD_|refine bS_ ?_ GE137.out|refine bS_ ?_ GE138.out|refine bS_ ?_ GE152.out)|exact HB.out))) (fun k_ e_=>by cases e_;exact GE138.out));clear BK137;clear BK138;clear BK152;clear HB;have BK137:=n0_;have BK138:=n1_;have BK152:=n2_;have HB:=n3_;clear n0_ n1_ n2_ n3_;clear hg hx))
                        go_roundg k5
                        case measure=>have:=HJ1.out;have:=HK2.out;have:=HJ17.out;have:=HK4.out;have:=HK5.out;omega
                        case rel=>exact ⟨(IntKind.i8.wrap (x8_5 + 1)),(x138000_5),(y158),(by first|rfl|(simp;done)|(simp [*];done)),H',⟨by have:=HJ1.out;have:=HK2.out;have:=HJ17.out;have:=HK4.out;have:=HK5.out;omega⟩,⟨by (with_reducible repeat (first|apply kN_|apply kD_|apply kA_));exact BK137.out⟩,⟨by (with_reducible repeat (first|apply kN_|apply kD_|apply kA_));exact BK138.out⟩,⟨by (with_reducible repeat (first|apply kN_|apply kD_|apply kA_));exact BK152.out⟩,⟨by repeat (first|(with_reducible first|exact HB.out|apply bA_|apply bN_|apply bD_|refine bS_ ?_ GE137.out|refine bS_ ?_ GE138.out|refine bS_ ?_ GE152.out)|exact HB.out)⟩⟩
                       ·
                        rw [if_neg c59] at H;have c59b0 : ((rd x139000_5 (x7_4 * 12 + x8_5)) == 0) = false:=beq_eq_false_iff_ne.mpr c59;have c59b1 : ((rd x139000_5 (x7_4 * 12 + x8_5)) != 0) = true:=bne_iff_ne.mpr c59
                        by_cases c67 : x139000_5.length = 144
                        ·
                         rw [if_pos c67] at H;have c67b0:=eq_true c67;have c67b1 : decide (x139000_5.length = 144) = true:=decide_eq_true c67;clear c67
                         by_cases c68 : x138000_5.length = 144
                         ·
                          rw [if_pos c68] at H;have c68b0:=eq_true c68;have c68b1 : decide (x138000_5.length = 144) = true:=decide_eq_true c68;clear c68;simp only [Option.some.injEq,Prod.mk.injEq] at H;obtain ⟨rfl,rfl⟩:=H;have hnb69:=NB152_137.out;have hnc69:=NB137_152.out;have hnb70:=NB152_138.out;have hnc70:=NB138_152.out;have hcz71_0 : wr.cell? ⟨gb152,0,none⟩ = some (.int .i8 ((rd_T38 ((rd_T30 l0 0).f2) x5_2).f0)):=(kC_ BK152.out 0).trans rfl;have hcz71_1 : wr.cell? ⟨gb152,1,none⟩ = some (.int .i8 ((rd_T38 ((rd_T30 l0 0).f2) x5_2).f1)):=(kC_ BK152.out 1).trans rfl;have hcz71_2 : wr.cell? ⟨gb152,2,none⟩ = some (.int .i8 ((rd_T38 ((rd_T30 l0 0).f2) x5_2).f2)):=(kC_ BK152.out 2).trans rfl;have hcz71_3 : wr.cell? ⟨gb152,3,none⟩ = some (.int .i8 ((rd_T38 ((rd_T30 l0 0).f2) x5_2).f3)):=(kC_ BK152.out 3).trans rfl;have hfz71_0:=kF_ BK152.out 0;have hfz71_1:=kF_ BK152.out 1;have hfz71_2:=kF_ BK152.out 2;have hfz71_3:=kF_ BK152.out 3;have p54 : 0≤(x7_4 : Int):=od_ (by first|(with_reducible assumption)|assumption);have q54 : (x7_4 : Int) < (12 : Int):=od_ (by first|(with_reducible assumption)|assumption);replace p54:=eq_true p54;replace q54:=eq_true q54;have p57 : 0≤(x8_5 : Int):=od_ (by first|(with_reducible assumption)|assumption);have q57 : (x8_5 : Int) < (12 : Int):=od_ (by first|(with_reducible assumption)|assumption);replace p57:=eq_true p57;replace q57:=eq_true q57;have haz72 : wr.cell? ⟨gb138,x7_4.toNat * 12 + x8_5.toNat,none⟩ = some (.int .i64 (rd x139000_5 (x7_4 * 12 + x8_5))):=arr_cell (by (with_reducible repeat (first|apply kN_|apply kD_|apply kA_));exact BK138.out) (x7_4 * 12 + x8_5) _ (by have h0_ : (0 : Int)≤x7_4:=od_ (by first|(with_reducible assumption)|assumption);have h1_ : (0 : Int)≤x8_5:=od_ (by first|(with_reducible assumption)|assumption);omega) (od_ (by first|(with_reducible assumption)|assumption))
                          go_wp2_with (first|((with_reducible refine gate_dst (N:=101) rfl ?_);(try (refine gate_guard (by rfl) ?_;dsimp only));refine arr_load (p:=4) (n:=144) (k:=.i64) (g:=gb138) (l:=x139000_5) ?hg (N:=101) ?hd (t:=83) ?ho ?hp (by (with_reducible repeat (first|apply kN_|apply kD_|apply kA_));exact BK138.out) Try.underlying83 (by kernel_rfl) (od_ (by first|(with_reducible assumption)|assumption)) ?_;(case hd=>rfl);(case hg=>rfl);(case ho=>rfl);(case hp=>rfl))|((with_reducible refine gate_store (t:=83) (p:=2) rfl ?_);refine arr_store (p:=2) (v:=?vv_w73) (n:=144) (k:=.i64) (g:=gb137) (l:=x138000_5) (l2:=x139000_5) ?hg ?hn (t:=83) ?ho ?hp ?hv (by (with_reducible repeat (first|apply kN_|apply kD_|apply kA_));exact BK137.out) (by kernel_rfl) (od_ (by first|(with_reducible assumption)|assumption)) (od_ (by first|(with_reducible assumption)|assumption)) ?_;(case ho=>rfl);(case hg=>rfl);(case hn=>rfl);(case hp=>rfl);(case hv=>rfl);intro w73 hg hx;have n0_:=am_ (hx);have n1_:=am_ (blk_grown (g:=gb138) (o:=.cells (arrC .i64 x139000_5) 83 (0,0)) (by (with_reducible repeat (first|apply kN_|apply kD_|apply kA_));exact BK138.out) hg (fun e_=>NB138_137.out (Option.some.inj e_)));have n2_:=am_ (blk_grown (g:=gb152) (o:=.cells #[.int .i8 ((rd_T38 ((rd_T30 l0 0).f2) x5_2).f0),.int .i8 ((rd_T38 ((rd_T30 l0 0).f2) x5_2).f1),.int .i8 ((rd_T38 ((rd_T30 l0 0).f2) x5_2).f2),.int .i8 ((rd_T38 ((rd_T30 l0 0).f2) x5_2).f3)] 38 (0,0)) (by (with_reducible repeat (first|apply kN_|apply kD_|apply kA_));exact BK152.out) hg (fun e_=>NB152_137.out (Option.some.inj e_)));have n3_:=am_ (Below.grown (by repeat (first|(with_reducible first|exact HB.out|apply bA_|apply bN_|apply bD_|refine bS_ ?_ GE137.out|refine bS_ ?_ GE138.out|refine bS_ ?_ GE152.out)|exact HB.out)) hg (below_size (by repeat (first|(with_reducible first|exact HB.out|apply bA_|apply bN_|apply bD_|refine bS_ ?_ GE137.out|refine bS_ ?_ GE138.out|refine bS_ ?_ GE152.out)|exact HB.out))) (fun k_ e_=>by cases e_;exact GE137.out));clear BK137;clear BK138;clear BK152;clear HB;have BK137:=n0_;have BK138:=n1_;have BK152:=n2_;have HB:=n3_;clear n0_ n1_ n2_ n3_;clear hg hx))
                          refine bodyPost_ret (results_ct rfl _ _ gb137 83 (arrC .i64 x139000_5) (0,0) _ rfl (by (with_reducible repeat (first|apply kN_|apply kD_|apply kA_));exact BK137.out) Try.underlying83 rfl (by first|(rw [arrC_size,(od_ (by first|(with_reducible assumption)|assumption) : x139000_5.length = 144)];kernel_rfl)|kernel_rfl)) rfl ?_;exact ⟨by first|rfl|(simp [errW_none,errW_some] <;> rfl)|(simp [*,errW_none,errW_some] <;> rfl),by repeat (first|(with_reducible first|exact HB.out|apply bA_|apply bN_|apply bD_|refine bS_ ?_ GE137.out|refine bS_ ?_ GE138.out|refine bS_ ?_ GE152.out)|exact HB.out)⟩
                         ·
                          rw [if_neg c68] at H;exact absurd H (by simp)
                        ·
                         rw [if_neg c67] at H;exact absurd H (by simp)
                      ·
                       rw [if_neg c58] at H;exact absurd H (by simp)
                     ·
                      rw [if_neg c56] at H;exact absurd H (by simp)
                    ·
                     rw [if_neg c55] at H;exact absurd H (by simp)
                   ·
                    rw [if_neg c53] at H;exact absurd H (by simp)
                  ·
                   rw [if_neg c52] at H;exact absurd H (by simp)
                 ·
                  rw [if_neg c51] at H;have c51b0 : decide (x8_5 < (IntKind.i8.wrap (((rd_T38 ((rd_T30 l0 0).f2) x5_2).f0) + ((rd_T38 ((rd_T30 l0 0).f2) x5_2).f2)))) = false:=decide_eq_false c51;clear c51;have H':=am_ H;clear H;have hnb74:=NB152_137.out;have hnc74:=NB137_152.out;have hnb75:=NB152_138.out;have hnc75:=NB138_152.out;have hcz76_0 : wr.cell? ⟨gb152,0,none⟩ = some (.int .i8 ((rd_T38 ((rd_T30 l0 0).f2) x5_2).f0)):=(kC_ BK152.out 0).trans rfl;have hcz76_1 : wr.cell? ⟨gb152,1,none⟩ = some (.int .i8 ((rd_T38 ((rd_T30 l0 0).f2) x5_2).f1)):=(kC_ BK152.out 1).trans rfl;have hcz76_2 : wr.cell? ⟨gb152,2,none⟩ = some (.int .i8 ((rd_T38 ((rd_T30 l0 0).f2) x5_2).f2)):=(kC_ BK152.out 2).trans rfl;have hcz76_3 : wr.cell? ⟨gb152,3,none⟩ = some (.int .i8 ((rd_T38 ((rd_T30 l0 0).f2) x5_2).f3)):=(kC_ BK152.out 3).trans rfl;have hfz76_0:=kF_ BK152.out 0;have hfz76_1:=kF_ BK152.out 1;have hfz76_2:=kF_ BK152.out 2;have hfz76_3:=kF_ BK152.out 3
                  go_wp2
                  go_roundg k5
                  case measure=>have:=HJ1.out;have:=HK2.out;have:=HJ17.out;have:=HK4.out;have:=HK5.out;omega
                  case rel=>exact ⟨(IntKind.i8.wrap (x7_4 + 1)),(x138000_5),(x139000_5),(by first|rfl|(simp;done)|(simp [*];done)),H',⟨by have:=HJ1.out;have:=HK2.out;have:=HJ17.out;have:=HK4.out;have:=HK5.out;omega⟩,⟨by (with_reducible repeat (first|apply kN_|apply kD_|apply kA_));exact BK137.out⟩,⟨by (with_reducible repeat (first|apply kN_|apply kD_|apply kA_));exact BK138.out⟩,⟨by (with_reducible repeat (first|apply kN_|apply kD_|apply kA_));exact BK152.out⟩,⟨by repeat (first|(with_reducible first|exact HB.out|apply bA_|apply bN_|apply bD_|refine bS_ ?_ GE137.out|refine bS_ ?_ GE138.out|refine bS_ ?_ GE152.out)|exact HB.out)⟩⟩
              ·
               rw [if_neg c47] at H;have c47b0 : decide (x7_4 < (IntKind.i8.wrap (((rd_T38 ((rd_T30 l0 0).f2) x5_2).f1) + ((rd_T38 ((rd_T30 l0 0).f2) x5_2).f3)))) = false:=decide_eq_false c47;clear c47;have H':=am_ H;clear H;have hnb77:=NB152_137.out;have hnc77:=NB137_152.out;have hnb78:=NB152_138.out;have hnc78:=NB138_152.out;have hcz79_0 : wr.cell? ⟨gb152,0,none⟩ = some (.int .i8 ((rd_T38 ((rd_T30 l0 0).f2) x5_2).f0)):=(kC_ BK152.out 0).trans rfl;have hcz79_1 : wr.cell? ⟨gb152,1,none⟩ = some (.int .i8 ((rd_T38 ((rd_T30 l0 0).f2) x5_2).f1)):=(kC_ BK152.out 1).trans rfl;have hcz79_2 : wr.cell? ⟨gb152,2,none⟩ = some (.int .i8 ((rd_T38 ((rd_T30 l0 0).f2) x5_2).f2)):=(kC_ BK152.out 2).trans rfl;have hcz79_3 : wr.cell? ⟨gb152,3,none⟩ = some (.int .i8 ((rd_T38 ((rd_T30 l0 0).f2) x5_2).f3)):=(kC_ BK152.out 3).trans rfl;have hfz79_0:=kF_ BK152.out 0;have hfz79_1:=kF_ BK152.out 1;have hfz79_2:=kF_ BK152.out 2;have hfz79_3:=kF_ BK152.out 3
               go_wp2
               go_roundg k4
               case measure=>have:=HJ1.out;have:=HK2.out;have:=HJ17.out;have:=HK4.out;omega
               case rel=>exact ⟨(wrap64 (x5_2 + 1)),(x138000_4),(x139000_4),(by first|rfl|(simp;done)|(simp [*];done)),H',⟨by have:=HJ1.out;have:=HK2.out;have:=HJ17.out;have:=HK4.out;omega⟩,⟨by (with_reducible repeat (first|apply kN_|apply kD_|apply kA_));exact BK137.out⟩,⟨by (with_reducible repeat (first|apply kN_|apply kD_|apply kA_));exact BK138.out⟩,⟨by repeat (first|(with_reducible first|exact HB.out|apply bA_|apply bN_|apply bD_|refine bS_ ?_ GE137.out|refine bS_ ?_ GE138.out|refine bS_ ?_ GE152.out)|exact HB.out)⟩⟩
        ·
         rw [if_neg c17] at H;exact absurd H (by simp)
       ·
        rw [if_neg c16] at H;have c16b0 : decide (x5_2 < (((rd_T30 l0 0).f2).length : Int)) = false:=decide_eq_false c16;clear c16
        by_cases c80 : x139000_2.length = 144
        ·
         rw [if_pos c80] at H;have c80b0:=eq_true c80;have c80b1 : decide (x139000_2.length = 144) = true:=decide_eq_true c80;clear c80
         by_cases c81 : x138000_2.length = 144
         ·
          rw [if_pos c81] at H;have c81b0:=eq_true c81;have c81b1 : decide (x138000_2.length = 144) = true:=decide_eq_true c81;clear c81;simp only [Option.some.injEq,Prod.mk.injEq] at H;obtain ⟨rfl,rfl⟩:=H;have p147 : 0≤(0 : Int):=(by omega)
          have q147 : 0 < (l0.length : Int):=od_ (by first|(with_reducible assumption)|assumption);obtain ⟨ad147,A147_2,c147_2,e147,hx147_0,hx147_1,hx147_2,hl147_2,hi147_2⟩:=at_T30 HR0.out 0 p147 q147
          cases e147
          have qi147 : (0 < l0.length) = True:=eq_true (by omega);(try rw [show ((0 : Int)).toNat = 0 from rfl] at hx147_0);(try rw [show 0 * 3 = 0 from rfl] at hx147_0);(try rw [Addr.add_zero'] at hx147_0);(try rw [show ((0 : Int)).toNat = 0 from rfl] at hx147_1);(try rw [show 0 * 3 = 0 from rfl] at hx147_1);(try rw [Addr.add_zero'] at hx147_1);(try rw [show ((0 : Int)).toNat = 0 from rfl] at hx147_2);(try rw [show 0 * 3 = 0 from rfl] at hx147_2);(try rw [Addr.add_zero'] at hx147_2);replace hx147_0:=(HB.out.cell (bl_ w _ hx147_0)).trans hx147_0;replace hx147_1:=(HB.out.cell (bl_ w _ hx147_1)).trans hx147_1;replace hx147_2:=(HB.out.cell (bl_ w _ hx147_2)).trans hx147_2;have HR147_2:=am_ hi147_2;have HC147_2:=am_ hl147_2;clear hi147_2 hl147_2;replace p147:=eq_true p147;replace q147:=eq_true q147;have p148 : 0≤(0 : Int):=(by omega)
          have q148 : 0 < (l0.length : Int):=od_ (by first|(with_reducible assumption)|assumption);obtain ⟨ad148,A148_2,c148_2,e148,hx148_0,hx148_1,hx148_2,hl148_2,hi148_2⟩:=at_T30 HR0.out 0 p148 q148;obtain rfl : ad147 = ad148:=(by injection e148)
          have qi148 : (0 < l0.length) = True:=eq_true (by omega);(try rw [show ((0 : Int)).toNat = 0 from rfl] at hx148_0);(try rw [show 0 * 3 = 0 from rfl] at hx148_0);(try rw [Addr.add_zero'] at hx148_0);(try rw [show ((0 : Int)).toNat = 0 from rfl] at hx148_1);(try rw [show 0 * 3 = 0 from rfl] at hx148_1);(try rw [Addr.add_zero'] at hx148_1);(try rw [show ((0 : Int)).toNat = 0 from rfl] at hx148_2);(try rw [show 0 * 3 = 0 from rfl] at hx148_2);(try rw [Addr.add_zero'] at hx148_2);replace hx148_0:=(HB.out.cell (bl_ w _ hx148_0)).trans hx148_0;replace hx148_1:=(HB.out.cell (bl_ w _ hx148_1)).trans hx148_1;replace hx148_2:=(HB.out.cell (bl_ w _ hx148_2)).trans hx148_2;have HR148_2:=am_ hi148_2;have HC148_2:=am_ hl148_2;clear hi148_2 hl148_2;replace p148:=eq_true p148;replace q148:=eq_true q148;have ea_:=Option.some.inj (hx147_2.symm.trans hx148_2)
          injection ea_ with ea_ en_ ec_
          subst ea_;subst ec_;clear en_
          go_wp2_with (first|((with_reducible refine gate_dst (N:=108) rfl ?_);(try (refine gate_guard (by rfl) ?_;dsimp only));refine arr_load (p:=4) (n:=144) (k:=.i64) (g:=gb138) (l:=x139000_2) ?hg (N:=108) ?hd (t:=83) ?ho ?hp (by (with_reducible repeat (first|apply kN_|apply kD_|apply kA_));exact BK138.out) Try.underlying83 (by kernel_rfl) (od_ (by first|(with_reducible assumption)|assumption)) ?_;(case hd=>rfl);(case hg=>rfl);(case ho=>rfl);(case hp=>rfl))|((with_reducible refine gate_store (t:=83) (p:=2) rfl ?_);refine arr_store (p:=2) (v:=?vv_w82) (n:=144) (k:=.i64) (g:=gb137) (l:=x138000_2) (l2:=x139000_2) ?hg ?hn (t:=83) ?ho ?hp ?hv (by (with_reducible repeat (first|apply kN_|apply kD_|apply kA_));exact BK137.out) (by kernel_rfl) (od_ (by first|(with_reducible assumption)|assumption)) (od_ (by first|(with_reducible assumption)|assumption)) ?_;(case ho=>rfl);(case hg=>rfl);(case hn=>rfl);(case hp=>rfl);(case hv=>rfl);intro w82 hg hx;have n0_:=am_ (hx);have n1_:=am_ (blk_grown (g:=gb138) (o:=.cells (arrC .i64 x139000_2) 83 (0,0)) (by (with_reducible repeat (first|apply kN_|apply kD_|apply kA_));exact BK138.out) hg (fun e_=>NB138_137.out (Option.some.inj e_)));have n2_:=am_ (Below.grown (by repeat (first|(with_reducible first|exact HB.out|apply bA_|apply bN_|apply bD_|refine bS_ ?_ GE137.out|refine bS_ ?_ GE138.out)|exact HB.out)) hg (below_size (by repeat (first|(with_reducible first|exact HB.out|apply bA_|apply bN_|apply bD_|refine bS_ ?_ GE137.out|refine bS_ ?_ GE138.out)|exact HB.out))) (fun k_ e_=>by cases e_;exact GE137.out));clear BK137;clear BK138;clear HB;have BK137:=n0_;have BK138:=n1_;have HB:=n2_;clear n0_ n1_ n2_;clear hg hx))
          refine bodyPost_ret (results_ct rfl _ _ gb137 83 (arrC .i64 x139000_2) (0,0) _ rfl (by (with_reducible repeat (first|apply kN_|apply kD_|apply kA_));exact BK137.out) Try.underlying83 rfl (by first|(rw [arrC_size,(od_ (by first|(with_reducible assumption)|assumption) : x139000_2.length = 144)];kernel_rfl)|kernel_rfl)) rfl ?_;exact ⟨by first|rfl|(simp [errW_none,errW_some] <;> rfl)|(simp [*,errW_none,errW_some] <;> rfl),by repeat (first|(with_reducible first|exact HB.out|apply bA_|apply bN_|apply bD_|refine bS_ ?_ GE137.out|refine bS_ ?_ GE138.out)|exact HB.out)⟩
         ·
          rw [if_neg c81] at H;exact absurd H (by simp)
        ·
         rw [if_neg c80] at H;exact absurd H (by simp)
      ·
       rw [if_neg c15] at H;exact absurd H (by simp)
end Go.Proofs.Ytanpafadehnhlaa.Q
