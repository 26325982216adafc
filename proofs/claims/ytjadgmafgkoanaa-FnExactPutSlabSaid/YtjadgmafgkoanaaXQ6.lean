-- By a program of this session's: of the print's words what this claim needs. Lean checks it.
import Derived.Test.YtjadgmafgkoanaaXQ0
import Derived.Test.YtjadgmafgkoanaaXQ1
import Derived.Test.YtjadgmafgkoanaaXQ4
import Derived.Test.YtjadgmafgkoanaaXQ5
namespace Go.Proofs.Ytjadgmafgkoanaa.Q
open Go.RowKit Go.Proofs.YtjadgmafgkoanaaW.PrintWords Go.Proofs.YtjadgmafgkoanaaW.PrintLast Go.Proofs.YtjadgmafgkoanaaW.PrintMore
attribute [local go_sem] max2_int min2_int max_two min_two max_three min_three max_four min_four
set_option linter.unusedVariables false
set_option linter.unusedSimpArgs false
mutual
def spec_l01Lay.j0 : Nat → List (S29) → Bool → List Int → List Int → Option (List Int × Bool)
 | 0,_,_,_,_=>none
 | k + 1,x0,x33,x220000,x221000=>if x33 = true then (if x221000.length = 144 then (if x220000.length = 144 then (some (x221000,false)) else (none)) else (none)) else (spec_l01Lay.l0 k x0 0 x220000 x221000)
def spec_l01Lay.l0 : Nat → List (S29) → Int → List Int → List Int → Option (List Int × Bool)
 | 0,_,_,_,_=>none
 | k + 1,x0,x5,x220000,x221000=>if 0 < (x0.length : Int) then (if x5 < (((rd_T29 x0 0).f2).length : Int) then (if 0≤x5 then ((spec_l01Lies.f x0 ((rd_T49 ((rd_T29 x0 0).f2) x5).f0) ((rd_T49 ((rd_T29 x0 0).f2) x5).f1) ((rd_T49 ((rd_T29 x0 0).f2) x5).f2) ((rd_T49 ((rd_T29 x0 0).f2) x5).f3)).bind fun t235=>(if t235 = true then (if x5 > 0 then (if 0≤(wrap64 (x5 - 1)) then (if (wrap64 (x5 - 1)) < (((rd_T29 x0 0).f2).length : Int) then ((spec_l01Before.f ((rd_T49 ((rd_T29 x0 0).f2) (wrap64 (x5 - 1))).f0) ((rd_T49 ((rd_T29 x0 0).f2) (wrap64 (x5 - 1))).f1) ((rd_T49 ((rd_T29 x0 0).f2) (wrap64 (x5 - 1))).f2) ((rd_T49 ((rd_T29 x0 0).f2) (wrap64 (x5 - 1))).f3) ((rd_T49 ((rd_T29 x0 0).f2) x5).f0) ((rd_T49 ((rd_T29 x0 0).f2) x5).f1) ((rd_T49 ((rd_T29 x0 0).f2) x5).f2) ((rd_T49 ((rd_T29 x0 0).f2) x5).f3)).bind fun t239=>(spec_l01Lay.j2 k x0 x5 (!t239) x220000 x221000 ((rd_T49 ((rd_T29 x0 0).f2) x5).f0) ((rd_T49 ((rd_T29 x0 0).f2) x5).f1) ((rd_T49 ((rd_T29 x0 0).f2) x5).f2) ((rd_T49 ((rd_T29 x0 0).f2) x5).f3))) else (none)) else (none)) else (spec_l01Lay.j2 k x0 x5 false x220000 x221000 ((rd_T49 ((rd_T29 x0 0).f2) x5).f0) ((rd_T49 ((rd_T29 x0 0).f2) x5).f1) ((rd_T49 ((rd_T29 x0 0).f2) x5).f2) ((rd_T49 ((rd_T29 x0 0).f2) x5).f3))) else (spec_l01Lay.j2 k x0 x5 true x220000 x221000 ((rd_T49 ((rd_T29 x0 0).f2) x5).f0) ((rd_T49 ((rd_T29 x0 0).f2) x5).f1) ((rd_T49 ((rd_T29 x0 0).f2) x5).f2) ((rd_T49 ((rd_T29 x0 0).f2) x5).f3)))) else (none)) else (if x221000.length = 144 then (if x220000.length = 144 then (some (x221000,true)) else (none)) else (none))) else (none)
def spec_l01Lay.j2 : Nat → List (S29) → Int → Bool → List Int → List Int → Int → Int → Int → Int → Option (List Int × Bool)
 | 0,_,_,_,_,_,_,_,_,_=>none
 | k + 1,x0,x5,x71,x220000,x221000,x235000,x235001,x235002,x235003=>if x71 = true then (if x221000.length = 144 then (if x220000.length = 144 then (some (x221000,false)) else (none)) else (none)) else (spec_l01Lay.l1 k x0 x5 x235001 x220000 x221000 x235000 x235001 x235002 x235003)
def spec_l01Lay.l1 : Nat → List (S29) → Int → Int → List Int → List Int → Int → Int → Int → Int → Option (List Int × Bool)
 | 0,_,_,_,_,_,_,_,_,_=>none
 | k + 1,x0,x5,x7,x220000,x221000,x235000,x235001,x235002,x235003=>if x7 < (IntKind.i8.wrap (x235001 + x235003)) then (spec_l01Lay.l2 k x0 x5 x7 x235000 x220000 x221000 x235000 x235001 x235002 x235003) else (spec_l01Lay.l0 k x0 (wrap64 (x5 + 1)) x220000 x221000)
def spec_l01Lay.l2 : Nat → List (S29) → Int → Int → Int → List Int → List Int → Int → Int → Int → Int → Option (List Int × Bool)
 | 0,_,_,_,_,_,_,_,_,_,_=>none
 | k + 1,x0,x5,x7,x8,x220000,x221000,x235000,x235001,x235002,x235003=>if x8 < (IntKind.i8.wrap (x235000 + x235002)) then (if 0≤x7 then (if x7 < 12 then (if 0≤x8 then (if x8 < 12 then (if x7 * 12 + x8 < (x221000.length : Int) then (if (rd x221000 (x7 * 12 + x8)) = 0 then (spec_l01Lay.l2 k x0 x5 x7 (IntKind.i8.wrap (x8 + 1)) x220000 (x221000.set (x7 * 12 + x8 : Int).toNat (wrap64 (x5 + 1))) x235000 x235001 x235002 x235003) else (if x221000.length = 144 then (if x220000.length = 144 then (some (x221000,false)) else (none)) else (none))) else (none)) else (none)) else (none)) else (none)) else (none)) else (spec_l01Lay.l1 k x0 x5 (IntKind.i8.wrap (x7 + 1)) x220000 x221000 x235000 x235001 x235002 x235003)
end
def spec_l01Lay.f (k : Nat) (l0 : List (S29)) : Option (List Int × Bool) := if 0 < (l0.length : Int) then ((spec_l01Edge.f (wrap64 ((rd_T29 l0 0).f0))).bind fun t223 => (if t223 = true then ((spec_l01Edge.f (wrap64 ((rd_T29 l0 0).f1))).bind fun t226 => (if t226 = true then (spec_l01Lay.j0 k l0 (decide ((((rd_T29 l0 0).f2).length : Int) > 60)) (arrZ 144) (arrZ 144)) else (spec_l01Lay.j0 k l0 true (arrZ 144) (arrZ 144)))) else (spec_l01Lay.j0 k l0 true (arrZ 144) (arrZ 144)))) else (none)
theorem spec_l01Lay.mono_l : ∀ k, (∀ y0 y1 y2 y3, LeO (spec_l01Lay.j0 k y0 y1 y2 y3) (spec_l01Lay.j0 (k + 1) y0 y1 y2 y3)) ∧ (∀ y0 y1 y2 y3, LeO (spec_l01Lay.l0 k y0 y1 y2 y3) (spec_l01Lay.l0 (k + 1) y0 y1 y2 y3)) ∧ (∀ y0 y1 y2 y3 y4 y5 y6 y7 y8, LeO (spec_l01Lay.j2 k y0 y1 y2 y3 y4 y5 y6 y7 y8) (spec_l01Lay.j2 (k + 1) y0 y1 y2 y3 y4 y5 y6 y7 y8)) ∧ (∀ y0 y1 y2 y3 y4 y5 y6 y7 y8, LeO (spec_l01Lay.l1 k y0 y1 y2 y3 y4 y5 y6 y7 y8) (spec_l01Lay.l1 (k + 1) y0 y1 y2 y3 y4 y5 y6 y7 y8)) ∧ (∀ y0 y1 y2 y3 y4 y5 y6 y7 y8 y9, LeO (spec_l01Lay.l2 k y0 y1 y2 y3 y4 y5 y6 y7 y8 y9) (spec_l01Lay.l2 (k + 1) y0 y1 y2 y3 y4 y5 y6 y7 y8 y9))
 | 0=>⟨fun _ _ _ _ r h=>by simp [spec_l01Lay.j0] at h,fun _ _ _ _ r h=>by simp [spec_l01Lay.l0] at h,fun _ _ _ _ _ _ _ _ _ r h=>by simp [spec_l01Lay.j2] at h,fun _ _ _ _ _ _ _ _ _ r h=>by simp [spec_l01Lay.l1] at h,fun _ _ _ _ _ _ _ _ _ _ r h=>by simp [spec_l01Lay.l2] at h⟩
 | k + 1=>by
  obtain ⟨ih0,ih1,ih2,ih3,ih4⟩:=spec_l01Lay.mono_l k;refine ⟨?_,?_,?_,?_,?_⟩
  ·
   intro y0 y1 y2 y3
   unfold spec_l01Lay.j0
   repeat' first
   | (with_reducible exact ih0 _ _ _ _)
   | (with_reducible exact ih1 _ _ _ _)
   | (with_reducible exact ih2 _ _ _ _ _ _ _ _ _)
   | (with_reducible exact ih3 _ _ _ _ _ _ _ _ _)
   | (with_reducible exact ih4 _ _ _ _ _ _ _ _ _ _)
   | (with_reducible exact LeO.refl _)
   | (with_reducible exact LeO.none _)
   | (with_reducible refine LeO.ite ?_ ?_)
   | (with_reducible refine LeO.bind ?_ (fun _=>?_))
   | exact ih0 _ _ _ _
   | exact ih1 _ _ _ _
   | exact ih2 _ _ _ _ _ _ _ _ _
   | exact ih3 _ _ _ _ _ _ _ _ _
   | exact ih4 _ _ _ _ _ _ _ _ _ _
   | exact LeO.none _
   | refine LeO.ite ?_ ?_
   | refine LeO.bind ?_ (fun _=>?_)
  ·
   intro y0 y1 y2 y3
   unfold spec_l01Lay.l0
   repeat' first
   | (with_reducible exact ih0 _ _ _ _)
   | (with_reducible exact ih1 _ _ _ _)
   | (with_reducible exact ih2 _ _ _ _ _ _ _ _ _)
   | (with_reducible exact ih3 _ _ _ _ _ _ _ _ _)
   | (with_reducible exact ih4 _ _ _ _ _ _ _ _ _ _)
   | (with_reducible exact LeO.refl _)
   | (with_reducible exact LeO.none _)
   | (with_reducible refine LeO.ite ?_ ?_)
   | (with_reducible refine LeO.bind ?_ (fun _=>?_))
   | exact ih0 _ _ _ _
   | exact ih1 _ _ _ _
   | exact ih2 _ _ _ _ _ _ _ _ _
   | exact ih3 _ _ _ _ _ _ _ _ _
   | exact ih4 _ _ _ _ _ _ _ _ _ _
   | exact LeO.none _
   | refine LeO.ite ?_ ?_
   | refine LeO.bind ?_ (fun _=>?_)
  ·
   intro y0 y1 y2 y3 y4 y5 y6 y7 y8
   unfold spec_l01Lay.j2
   repeat' first
   | (with_reducible exact ih0 _ _ _ _)
   | (with_reducible exact ih1 _ _ _ _)
   | (with_reducible exact ih2 _ _ _ _ _ _ _ _ _)
   | (with_reducible exact ih3 _ _ _ _ _ _ _ _ _)
   | (with_reducible exact ih4 _ _ _ _ _ _ _ _ _ _)
   | (with_reducible exact LeO.refl _)
   | (with_reducible exact LeO.none _)
   | (with_reducible refine LeO.ite ?_ ?_)
   | (with_reducible refine LeO.bind ?_ (fun _=>?_))
   | exact ih0 _ _ _ _
   | exact ih1 _ _ _ _
   | exact ih2 _ _ _ _ _ _ _ _ _
   | exact ih3 _ _ _ _ _ _ _ _ _
   | exact ih4 _ _ _ _ _ _ _ _ _ _
   | exact LeO.none _
   | refine LeO.ite ?_ ?_
   | refine LeO.bind ?_ (fun _=>?_)
  ·
   intro y0 y1 y2 y3 y4 y5 y6 y7 y8
   unfold spec_l01Lay.l1
   repeat' first
   | (with_reducible exact ih0 _ _ _ _)
   | (with_reducible exact ih1 _ _ _ _)
   | (with_reducible exact ih2 _ _ _ _ _ _ _ _ _)
   | (with_reducible exact ih3 _ _ _ _ _ _ _ _ _)
   | (with_reducible exact ih4 _ _ _ _ _ _ _ _ _ _)
   | (with_reducible exact LeO.refl _)
   | (with_reducible exact LeO.none _)
   | (with_reducible refine LeO.ite ?_ ?_)
   | (with_reducible refine LeO.bind ?_ (fun _=>?_))
   | exact ih0 _ _ _ _
   | exact ih1 _ _ _ _
   | exact ih2 _ _ _ _ _ _ _ _ _
   | exact ih3 _ _ _ _ _ _ _ _ _
   | exact ih4 _ _ _ _ _ _ _ _ _ _
   | exact LeO.none _
   | refine LeO.ite ?_ ?_
   | refine LeO.bind ?_ (fun _=>?_)
  ·
   intro y0 y1 y2 y3 y4 y5 y6 y7 y8 y9
   unfold spec_l01Lay.l2
   repeat' first
   | (with_reducible exact ih0 _ _ _ _)
   | (with_reducible exact ih1 _ _ _ _)
   | (with_reducible exact ih2 _ _ _ _ _ _ _ _ _)
   | (with_reducible exact ih3 _ _ _ _ _ _ _ _ _)
   | (with_reducible exact ih4 _ _ _ _ _ _ _ _ _ _)
   | (with_reducible exact LeO.refl _)
   | (with_reducible exact LeO.none _)
   | (with_reducible refine LeO.ite ?_ ?_)
   | (with_reducible refine LeO.bind ?_ (fun _=>?_))
   | exact ih0 _ _ _ _
   | exact ih1 _ _ _ _
   | exact ih2 _ _ _ _ _ _ _ _ _
   | exact ih3 _ _ _ _ _ _ _ _ _
   | exact ih4 _ _ _ _ _ _ _ _ _ _
   | exact LeO.none _
   | refine LeO.ite ?_ ?_
   | refine LeO.bind ?_ (fun _=>?_)
theorem spec_l01Lay.mono : ∀ a0 k, LeO (spec_l01Lay.f k a0) (spec_l01Lay.f (k + 1) a0) := by
 intro a0 k;obtain ⟨ih0,ih1,ih2,ih3,ih4⟩:=spec_l01Lay.mono_l k
 unfold spec_l01Lay.f
 repeat' first
   | (with_reducible exact ih0 _ _ _ _)
   | (with_reducible exact ih1 _ _ _ _)
   | (with_reducible exact ih2 _ _ _ _ _ _ _ _ _)
   | (with_reducible exact ih3 _ _ _ _ _ _ _ _ _)
   | (with_reducible exact ih4 _ _ _ _ _ _ _ _ _ _)
   | (with_reducible exact LeO.refl _)
   | (with_reducible exact LeO.none _)
   | (with_reducible refine LeO.ite ?_ ?_)
   | (with_reducible refine LeO.bind ?_ (fun _=>?_))
   | exact ih0 _ _ _ _
   | exact ih1 _ _ _ _
   | exact ih2 _ _ _ _ _ _ _ _ _
   | exact ih3 _ _ _ _ _ _ _ _ _
   | exact ih4 _ _ _ _ _ _ _ _ _ _
   | exact LeO.none _
   | refine LeO.ite ?_ ?_
   | refine LeO.bind ?_ (fun _=>?_)
def spec_l01Lay.T8 : Bool × List (List Nat × List Nat) := (true, [([], []), ([], []), ([0, 1], [0, 1]), ([2], [2]), ([3, 2], [3]), ([4], [4]), ([5, 4], [4, 5]), ([6, 4, 4], [4, 6]), ([7], [7]), ([8, 7], [7, 8]), ([9, 7], [7, 9]), ([10, 7], [7, 10]), ([7], [7]), ([12, 7], [7, 12]), ([11, 13, 7], [7, 11, 13]), ([14, 7], [7, 14]), ([7], [7]), ([15, 16, 7, 7], [7, 15, 16]), ([17, 7], [7, 17]), ([7, 18, 4], [4, 7, 18]), ([4, 19], [4, 19])])
def spec_l01Lay.B8 : List Nat := [0, 0, 3, 7, 15, 31, 63, 127, 255, 511, 1023, 2047, 255, 4351, 16383, 32767, 255, 131071, 262143, 524287, 1048575]
theorem spec_l01Lay.tab8 : rtab .any (opsOf Try.f72 8) = spec_l01Lay.T8 := by kernel_rfl
theorem spec_l01Lay.bits8 : waitsOk spec_l01Lay.T8.2 spec_l01Lay.B8 = true := by kernel_rfl
set_option maxHeartbeats 8000000 in
set_option maxRecDepth 100000 in
theorem spec_l01Lay.calls (k : Nat) (A0 : Option Addr) (c0 : Nat) (l0 : List (S29)) (r1 : List Int) (r2 : Bool) (w : World) (hr0 : Kd.C k29 w A0 l0.length l0) (hc0 : l0.length ≤ c0) (h : spec_l01Lay.f k l0 = some (r1, r2)) :
  Calls Try.prog 72 #[.pointer A0] w fun e w'=>e = .returned (.tuple #[.agg (arrC .i64 r1),.bool r2]) ∧ Below w.heap.size w w':=by
 have hu91:=Try.underlying91;have hu49:=Try.underlying49;have HR0:=am_ hr0;have HC0:=am_ hc0;clear hr0 hc0;have HB:=am_ (Below.refl w.heap.size w);have H : (if 0 < (l0.length : Int) then ((spec_l01Edge.f (wrap64 ((rd_T29 l0 0).f0))).bind fun t223=>(if t223 = true then ((spec_l01Edge.f (wrap64 ((rd_T29 l0 0).f1))).bind fun t226=>(if t226 = true then (spec_l01Lay.j0 k l0 (decide ((((rd_T29 l0 0).f2).length : Int) > 60)) (arrZ 144) (arrZ 144)) else (spec_l01Lay.j0 k l0 true (arrZ 144) (arrZ 144)))) else (spec_l01Lay.j0 k l0 true (arrZ 144) (arrZ 144)))) else (none)) = some (r1,r2):=h;clear h;have HC2:=am_ H;clear H
 go_enter Try.func72,Try.ntmps72
 go_upto_region 2 with (first|((with_reducible refine gate_dst (N:=2) rfl ?_);(try (refine gate_guard (by rfl) ?_;dsimp only));refine box_event ?hg (N:=2) ?hd (cs:=(arrC .i64 (arrZ 144))) (t:=91) ?hr ?_;(case hd=>rfl);(case hg=>rfl);(case hr=>exact arr_alloc rfl .i64 144 (by kernel_rfl));intro gb219 hg w3 hbox hb;have n0_:=am_ (bT_ HB.out hb);have n1_:=am_ (hbox);have n2_:=am_ ((by rw [hg];exact (bZ_ HB.out) : w.heap.size≤gb219));have n3_:=n2_;clear HB;have HB:=n0_;have BK219:=n1_;have GW219:=n2_;have GE219:=n3_;clear n0_ n1_ n2_ n3_;clear hb hbox hg)|((with_reducible refine gate_dst (N:=9) rfl ?_);(try (refine gate_guard (by rfl) ?_;dsimp only));refine arr_build ?hg (N:=9) ?hd (t:=91) ?ho .i64 144 Try.underlying91 (by kernel_rfl) (by kernel_rfl) ?_;(case hd=>rfl);(case hg=>rfl);(case ho=>rfl))|((with_reducible refine gate_dst (N:=4) rfl ?_);(try (refine gate_guard (by rfl) ?_;dsimp only));refine box_event ?hg (N:=4) ?hd (cs:=(arrC .i64 (arrZ 144))) (t:=91) ?hr ?_;(case hd=>rfl);(case hg=>rfl);(case hr=>exact arr_alloc rfl .i64 144 (by kernel_rfl));intro gb220 hg w4 hbox hb;have n0_:=am_ (kB_ (g:=gb219) (o:=.cells (arrC .i64 (arrZ 144)) 91 (0,0)) BK219.out hb);have n1_:=am_ (bT_ HB.out hb);have n2_:=am_ (hbox);have n3_:=am_ ((by rw [hg];exact (bZ_ HB.out) : w.heap.size≤gb220));have n4_:=n3_;have n5_:=am_ ((by rw [hg];exact nL_ (kL_ (g:=gb219) (o:=.cells (arrC .i64 (arrZ 144)) 91 (0,0)) BK219.out) : gb219 ≠ gb220));have n6_:=am_ ((by rw [hg];exact nG_ (kL_ (g:=gb219) (o:=.cells (arrC .i64 (arrZ 144)) 91 (0,0)) BK219.out) : gb220 ≠ gb219));clear BK219;clear HB;have BK219:=n0_;have HB:=n1_;have BK220:=n2_;have GW220:=n3_;have GE220:=n4_;have NB219_220:=n5_;have NB220_219:=n6_;clear n0_ n1_ n2_ n3_ n4_ n5_ n6_;clear hb hbox hg)|((with_reducible refine gate_store (t:=91) (p:=4) rfl ?_);refine arr_store (p:=4) (v:=?vv_w5) (n:=144) (k:=.i64) (g:=gb220) (l:=(arrZ 144)) (l2:=(arrZ 144)) ?hg ?hn (t:=91) ?ho ?hp ?hv BK220.out (by kernel_rfl) (arrZ_length _) (arrZ_length _) ?_;(case ho=>rfl);(case hg=>rfl);(case hn=>rfl);(case hp=>rfl);(case hv=>rfl);intro w5 hg hx;have n0_:=am_ (blk_grown (g:=gb219) (o:=.cells (arrC .i64 (arrZ 144)) 91 (0,0)) BK219.out hg (fun e_=>NB219_220.out (Option.some.inj e_)));have n1_:=am_ (hx);have n2_:=am_ (Below.grown HB.out hg (bZ_ HB.out) (fun k_ e_=>by cases e_;exact GE220.out));clear BK219;clear BK220;clear HB;have BK219:=n0_;have BK220:=n1_;have HB:=n2_;clear n0_ n1_ n2_;clear hg hx))
 (try simp only [Act.put,z1_,z2_,z3_])
 go_cut [33] (fun v33 wc=>∃ (kq : Nat) (x33_1 : Bool),v33 = .bool x33_1 ∧ Aside0 (spec_l01Lay.j0 kq l0 x33_1 (arrZ 144) (arrZ 144) = some (r1,r2)) ∧ Aside0 (kq≤k) ∧ Aside0 (wc.heap[gb219]? = some (.cells (arrC .i64 (arrZ 144)) 91 (0,0))) ∧ Aside0 (wc.heap[gb220]? = some (.cells (arrC .i64 (arrZ 144)) 91 (0,0))) ∧ Aside0 (Below w.heap.size w wc))
 case first =>
  have H:=HC2.out;clear HC2
  by_cases c6 : 0 < (l0.length : Int)
  ·
   rw [if_pos c6] at H;have c6b0 : decide (0 < (l0.length : Int)) = true:=decide_eq_true c6;have c6b1 : decide (0 < l0.length) = true:=decide_eq_true (by omega);clear c6
   (first|rw [c6b0]|(simp only [i64_w,i32_w];rw [c6b0])|skip)
   replace H:=Option.bind_eq_some_iff.mp H;obtain ⟨t223,A70,H⟩:=H;replace H : (if t223 = true then ((spec_l01Edge.f (wrap64 ((rd_T29 l0 0).f1))).bind fun t226=>(if t226 = true then (spec_l01Lay.j0 k l0 (decide ((((rd_T29 l0 0).f2).length : Int) > 60)) (arrZ 144) (arrZ 144)) else (spec_l01Lay.j0 k l0 true (arrZ 144) (arrZ 144)))) else (spec_l01Lay.j0 k l0 true (arrZ 144) (arrZ 144))) = some (r1,r2):=H;have A7:=am_ A70;clear A70
   by_cases c8 : t223 = true
   ·
    subst c8;have H1 : ((spec_l01Edge.f (wrap64 ((rd_T29 l0 0).f1))).bind fun t226=>(if t226 = true then (spec_l01Lay.j0 k l0 (decide ((((rd_T29 l0 0).f2).length : Int) > 60)) (arrZ 144) (arrZ 144)) else (spec_l01Lay.j0 k l0 true (arrZ 144) (arrZ 144)))) = some (r1,r2):=by rw [if_pos rfl] at H;exact H
    clear H;have H:=H1;clear H1;replace H:=Option.bind_eq_some_iff.mp H;obtain ⟨t226,A90,H⟩:=H;replace H : (if t226 = true then (spec_l01Lay.j0 k l0 (decide ((((rd_T29 l0 0).f2).length : Int) > 60)) (arrZ 144) (arrZ 144)) else (spec_l01Lay.j0 k l0 true (arrZ 144) (arrZ 144))) = some (r1,r2):=H;have A9:=am_ A90;clear A90
    by_cases c10 : t226 = true
    ·
     subst c10;have H1 : (spec_l01Lay.j0 k l0 (decide ((((rd_T29 l0 0).f2).length : Int) > 60)) (arrZ 144) (arrZ 144)) = some (r1,r2):=by rw [if_pos rfl] at H;exact H
     clear H;have H:=H1;clear H1;have H':=am_ H;clear H;have p221 : 0≤(0 : Int):=(by omega)
     have q221 : 0 < (l0.length : Int):=od_ (by first|(with_reducible assumption)|assumption);obtain ⟨ad221,A221_2,c221_2,e221,hx221_0,hx221_1,hx221_2,hl221_2,hi221_2⟩:=at_T29 HR0.out 0 p221 q221
     cases e221
     have qi221 : (0 < l0.length) = True:=eq_true (by omega);(try rw [show ((0 : Int)).toNat = 0 from rfl] at hx221_0);(try rw [show 0 * 3 = 0 from rfl] at hx221_0);(try rw [Addr.add_zero'] at hx221_0);(try rw [show ((0 : Int)).toNat = 0 from rfl] at hx221_1);(try rw [show 0 * 3 = 0 from rfl] at hx221_1);(try rw [Addr.add_zero'] at hx221_1);(try rw [show ((0 : Int)).toNat = 0 from rfl] at hx221_2);(try rw [show 0 * 3 = 0 from rfl] at hx221_2);(try rw [Addr.add_zero'] at hx221_2);replace hx221_0:=(HB.out.cell (bl_ w _ hx221_0)).trans hx221_0;replace hx221_1:=(HB.out.cell (bl_ w _ hx221_1)).trans hx221_1;replace hx221_2:=(HB.out.cell (bl_ w _ hx221_2)).trans hx221_2;have HR221_2:=am_ hi221_2;have HC221_2:=am_ hl221_2;clear hi221_2 hl221_2;replace p221:=eq_true p221;replace q221:=eq_true q221;have p222 : 0≤(0 : Int):=(by omega)
     have q222 : 0 < (l0.length : Int):=od_ (by first|(with_reducible assumption)|assumption);obtain ⟨ad222,A222_2,c222_2,e222,hx222_0,hx222_1,hx222_2,hl222_2,hi222_2⟩:=at_T29 HR0.out 0 p222 q222;obtain rfl : ad221 = ad222:=(by injection e222)
     have qi222 : (0 < l0.length) = True:=eq_true (by omega);(try rw [show ((0 : Int)).toNat = 0 from rfl] at hx222_0);(try rw [show 0 * 3 = 0 from rfl] at hx222_0);(try rw [Addr.add_zero'] at hx222_0);(try rw [show ((0 : Int)).toNat = 0 from rfl] at hx222_1);(try rw [show 0 * 3 = 0 from rfl] at hx222_1);(try rw [Addr.add_zero'] at hx222_1);(try rw [show ((0 : Int)).toNat = 0 from rfl] at hx222_2);(try rw [show 0 * 3 = 0 from rfl] at hx222_2);(try rw [Addr.add_zero'] at hx222_2);replace hx222_0:=(HB.out.cell (bl_ w _ hx222_0)).trans hx222_0;replace hx222_1:=(HB.out.cell (bl_ w _ hx222_1)).trans hx222_1;replace hx222_2:=(HB.out.cell (bl_ w _ hx222_2)).trans hx222_2;have HR222_2:=am_ hi222_2;have HC222_2:=am_ hl222_2;clear hi222_2 hl222_2;replace p222:=eq_true p222;replace q222:=eq_true q222;have ea_:=Option.some.inj (hx221_2.symm.trans hx222_2)
     injection ea_ with ea_ en_ ec_
     subst ea_;subst ec_;clear en_
     go_wp2_with (first|((with_reducible refine gate_callee (f:=45) rfl ?_);refine goesL_ (some 15) rfl rfl Try.func45 (by kernel_rfl) rfl #[.int .i64 (wrap64 ((rd_T29 l0 0).f0))] rfl (by (try simp only [List.map_toArray,List.map_cons,List.map_nil]);first|done|rfl|(simp only [List.length_drop,List.length_take];rfl)) ?_;(with_reducible refine (spec_l01Edge.calls (wrap64 ((rd_T29 l0 0).f0)) true _ A7.out).mono ?_);rintro e w' ⟨rfl,⟨nd,rfl⟩⟩;refine ⟨_,rfl,?_⟩;have p224 : 0≤(0 : Int):=(by omega);have q224 : 0 < (l0.length : Int):=od_ (by first|(with_reducible assumption)|assumption);obtain ⟨ad224,A224_2,c224_2,e224,hx224_0,hx224_1,hx224_2,hl224_2,hi224_2⟩:=at_T29 HR0.out 0 p224 q224;obtain rfl : ad221 = ad224:=(by injection e224);have qi224 : (0 < l0.length) = True:=eq_true (by omega);(try rw [show ((0 : Int)).toNat = 0 from rfl] at hx224_0);(try rw [show 0 * 3 = 0 from rfl] at hx224_0);(try rw [Addr.add_zero'] at hx224_0);(try rw [show ((0 : Int)).toNat = 0 from rfl] at hx224_1);(try rw [show 0 * 3 = 0 from rfl] at hx224_1);(try rw [Addr.add_zero'] at hx224_1);(try rw [show ((0 : Int)).toNat = 0 from rfl] at hx224_2);(try rw [show 0 * 3 = 0 from rfl] at hx224_2);(try rw [Addr.add_zero'] at hx224_2);replace hx224_0:=(HB.out.cell (bl_ w _ hx224_0)).trans hx224_0;replace hx224_1:=(HB.out.cell (bl_ w _ hx224_1)).trans hx224_1;replace hx224_2:=(HB.out.cell (bl_ w _ hx224_2)).trans hx224_2;have HR224_2:=am_ hi224_2;have HC224_2:=am_ hl224_2;clear hi224_2 hl224_2;replace p224:=eq_true p224;replace q224:=eq_true q224;have ea_:=Option.some.inj (hx221_2.symm.trans hx224_2);injection ea_ with ea_ en_ ec_;subst ea_;subst ec_;clear en_;have p225 : 0≤(0 : Int):=(by omega);have q225 : 0 < (l0.length : Int):=od_ (by first|(with_reducible assumption)|assumption);obtain ⟨ad225,A225_2,c225_2,e225,hx225_0,hx225_1,hx225_2,hl225_2,hi225_2⟩:=at_T29 HR0.out 0 p225 q225;obtain rfl : ad221 = ad225:=(by injection e225);have qi225 : (0 < l0.length) = True:=eq_true (by omega);(try rw [show ((0 : Int)).toNat = 0 from rfl] at hx225_0);(try rw [show 0 * 3 = 0 from rfl] at hx225_0);(try rw [Addr.add_zero'] at hx225_0);(try rw [show ((0 : Int)).toNat = 0 from rfl] at hx225_1);(try rw [show 0 * 3 = 0 from rfl] at hx225_1);(try rw [Addr.add_zero'] at hx225_1);(try rw [show ((0 : Int)).toNat = 0 from rfl] at hx225_2);(try rw [show 0 * 3 = 0 from rfl] at hx225_2);(try rw [Addr.add_zero'] at hx225_2);replace hx225_0:=(HB.out.cell (bl_ w _ hx225_0)).trans hx225_0;replace hx225_1:=(HB.out.cell (bl_ w _ hx225_1)).trans hx225_1;replace hx225_2:=(HB.out.cell (bl_ w _ hx225_2)).trans hx225_2;have HR225_2:=am_ hi225_2;have HC225_2:=am_ hl225_2;clear hi225_2 hl225_2;replace p225:=eq_true p225;replace q225:=eq_true q225;have ea_:=Option.some.inj (hx221_2.symm.trans hx225_2);injection ea_ with ea_ en_ ec_;subst ea_;subst ec_;clear en_)|(go_at_call 45;(with_reducible refine (spec_l01Edge.calls (wrap64 ((rd_T29 l0 0).f1)) true _ A9.out).mono ?_);rintro e w' ⟨rfl,⟨nd,rfl⟩⟩;have p227 : 0≤(0 : Int):=(by omega);have q227 : 0 < (l0.length : Int):=od_ (by first|(with_reducible assumption)|assumption);obtain ⟨ad227,A227_2,c227_2,e227,hx227_0,hx227_1,hx227_2,hl227_2,hi227_2⟩:=at_T29 HR0.out 0 p227 q227;obtain rfl : ad221 = ad227:=(by injection e227);have qi227 : (0 < l0.length) = True:=eq_true (by omega);(try rw [show ((0 : Int)).toNat = 0 from rfl] at hx227_0);(try rw [show 0 * 3 = 0 from rfl] at hx227_0);(try rw [Addr.add_zero'] at hx227_0);(try rw [show ((0 : Int)).toNat = 0 from rfl] at hx227_1);(try rw [show 0 * 3 = 0 from rfl] at hx227_1);(try rw [Addr.add_zero'] at hx227_1);(try rw [show ((0 : Int)).toNat = 0 from rfl] at hx227_2);(try rw [show 0 * 3 = 0 from rfl] at hx227_2);(try rw [Addr.add_zero'] at hx227_2);replace hx227_0:=(HB.out.cell (bl_ w _ hx227_0)).trans hx227_0;replace hx227_1:=(HB.out.cell (bl_ w _ hx227_1)).trans hx227_1;replace hx227_2:=(HB.out.cell (bl_ w _ hx227_2)).trans hx227_2;have HR227_2:=am_ hi227_2;have HC227_2:=am_ hl227_2;clear hi227_2 hl227_2;replace p227:=eq_true p227;replace q227:=eq_true q227;have ea_:=Option.some.inj (hx221_2.symm.trans hx227_2);injection ea_ with ea_ en_ ec_;subst ea_;subst ec_;clear en_;have p228 : 0≤(0 : Int):=(by omega);have q228 : 0 < (l0.length : Int):=od_ (by first|(with_reducible assumption)|assumption);obtain ⟨ad228,A228_2,c228_2,e228,hx228_0,hx228_1,hx228_2,hl228_2,hi228_2⟩:=at_T29 HR0.out 0 p228 q228;obtain rfl : ad221 = ad228:=(by injection e228);have qi228 : (0 < l0.length) = True:=eq_true (by omega);(try rw [show ((0 : Int)).toNat = 0 from rfl] at hx228_0);(try rw [show 0 * 3 = 0 from rfl] at hx228_0);(try rw [Addr.add_zero'] at hx228_0);(try rw [show ((0 : Int)).toNat = 0 from rfl] at hx228_1);(try rw [show 0 * 3 = 0 from rfl] at hx228_1);(try rw [Addr.add_zero'] at hx228_1);(try rw [show ((0 : Int)).toNat = 0 from rfl] at hx228_2);(try rw [show 0 * 3 = 0 from rfl] at hx228_2);(try rw [Addr.add_zero'] at hx228_2);replace hx228_0:=(HB.out.cell (bl_ w _ hx228_0)).trans hx228_0;replace hx228_1:=(HB.out.cell (bl_ w _ hx228_1)).trans hx228_1;replace hx228_2:=(HB.out.cell (bl_ w _ hx228_2)).trans hx228_2;have HR228_2:=am_ hi228_2;have HC228_2:=am_ hl228_2;clear hi228_2 hl228_2;replace p228:=eq_true p228;replace q228:=eq_true q228;have ea_:=Option.some.inj (hx221_2.symm.trans hx228_2);injection ea_ with ea_ en_ ec_;subst ea_;subst ec_;clear en_))
     go_meet
     case rel=>exact ⟨_,(decide ((((rd_T29 l0 0).f2).length : Int) > 60)),(by first|rfl|(simp;done)|(simp [*];done)),H',⟨by first|omega|exact Nat.le_refl _⟩,⟨by (with_reducible repeat (first|apply kN_|apply kD_|apply kA_));exact BK219.out⟩,⟨by (with_reducible repeat (first|apply kN_|apply kD_|apply kA_));exact BK220.out⟩,⟨by repeat (first|(with_reducible first|exact HB.out|apply bA_|apply bN_|apply bD_|refine bS_ ?_ GE219.out|refine bS_ ?_ GE220.out)|exact HB.out)⟩⟩
    ·
     replace c10:=Bool.eq_false_iff.mpr c10;subst c10;have H1 : (spec_l01Lay.j0 k l0 true (arrZ 144) (arrZ 144)) = some (r1,r2):=by rw [if_neg (show ¬ (false = true) by decide)] at H;exact H
     clear H;have H:=H1;clear H1;have H':=am_ H;clear H;have p221 : 0≤(0 : Int):=(by omega)
     have q221 : 0 < (l0.length : Int):=od_ (by first|(with_reducible assumption)|assumption);obtain ⟨ad221,A221_2,c221_2,e221,hx221_0,hx221_1,hx221_2,hl221_2,hi221_2⟩:=at_T29 HR0.out 0 p221 q221
     cases e221
     have qi221 : (0 < l0.length) = True:=eq_true (by omega);(try rw [show ((0 : Int)).toNat = 0 from rfl] at hx221_0);(try rw [show 0 * 3 = 0 from rfl] at hx221_0);(try rw [Addr.add_zero'] at hx221_0);(try rw [show ((0 : Int)).toNat = 0 from rfl] at hx221_1);(try rw [show 0 * 3 = 0 from rfl] at hx221_1);(try rw [Addr.add_zero'] at hx221_1);(try rw [show ((0 : Int)).toNat = 0 from rfl] at hx221_2);(try rw [show 0 * 3 = 0 from rfl] at hx221_2);(try rw [Addr.add_zero'] at hx221_2);replace hx221_0:=(HB.out.cell (bl_ w _ hx221_0)).trans hx221_0;replace hx221_1:=(HB.out.cell (bl_ w _ hx221_1)).trans hx221_1;replace hx221_2:=(HB.out.cell (bl_ w _ hx221_2)).trans hx221_2;have HR221_2:=am_ hi221_2;have HC221_2:=am_ hl221_2;clear hi221_2 hl221_2;replace p221:=eq_true p221;replace q221:=eq_true q221;have p222 : 0≤(0 : Int):=(by omega)
     have q222 : 0 < (l0.length : Int):=od_ (by first|(with_reducible assumption)|assumption);obtain ⟨ad222,A222_2,c222_2,e222,hx222_0,hx222_1,hx222_2,hl222_2,hi222_2⟩:=at_T29 HR0.out 0 p222 q222;obtain rfl : ad221 = ad222:=(by injection e222)
     have qi222 : (0 < l0.length) = True:=eq_true (by omega);(try rw [show ((0 : Int)).toNat = 0 from rfl] at hx222_0);(try rw [show 0 * 3 = 0 from rfl] at hx222_0);(try rw [Addr.add_zero'] at hx222_0);(try rw [show ((0 : Int)).toNat = 0 from rfl] at hx222_1);(try rw [show 0 * 3 = 0 from rfl] at hx222_1);(try rw [Addr.add_zero'] at hx222_1);(try rw [show ((0 : Int)).toNat = 0 from rfl] at hx222_2);(try rw [show 0 * 3 = 0 from rfl] at hx222_2);(try rw [Addr.add_zero'] at hx222_2);replace hx222_0:=(HB.out.cell (bl_ w _ hx222_0)).trans hx222_0;replace hx222_1:=(HB.out.cell (bl_ w _ hx222_1)).trans hx222_1;replace hx222_2:=(HB.out.cell (bl_ w _ hx222_2)).trans hx222_2;have HR222_2:=am_ hi222_2;have HC222_2:=am_ hl222_2;clear hi222_2 hl222_2;replace p222:=eq_true p222;replace q222:=eq_true q222;have ea_:=Option.some.inj (hx221_2.symm.trans hx222_2)
     injection ea_ with ea_ en_ ec_
     subst ea_;subst ec_;clear en_
     go_wp2_with (first|((with_reducible refine gate_callee (f:=45) rfl ?_);refine goesL_ (some 15) rfl rfl Try.func45 (by kernel_rfl) rfl #[.int .i64 (wrap64 ((rd_T29 l0 0).f0))] rfl (by (try simp only [List.map_toArray,List.map_cons,List.map_nil]);first|done|rfl|(simp only [List.length_drop,List.length_take];rfl)) ?_;(with_reducible refine (spec_l01Edge.calls (wrap64 ((rd_T29 l0 0).f0)) true _ A7.out).mono ?_);rintro e w' ⟨rfl,⟨nd,rfl⟩⟩;refine ⟨_,rfl,?_⟩;have p224 : 0≤(0 : Int):=(by omega);have q224 : 0 < (l0.length : Int):=od_ (by first|(with_reducible assumption)|assumption);obtain ⟨ad224,A224_2,c224_2,e224,hx224_0,hx224_1,hx224_2,hl224_2,hi224_2⟩:=at_T29 HR0.out 0 p224 q224;obtain rfl : ad221 = ad224:=(by injection e224);have qi224 : (0 < l0.length) = True:=eq_true (by omega);(try rw [show ((0 : Int)).toNat = 0 from rfl] at hx224_0);(try rw [show 0 * 3 = 0 from rfl] at hx224_0);(try rw [Addr.add_zero'] at hx224_0);(try rw [show ((0 : Int)).toNat = 0 from rfl] at hx224_1);(try rw [show 0 * 3 = 0 from rfl] at hx224_1);(try rw [Addr.add_zero'] at hx224_1);(try rw [show ((0 : Int)).toNat = 0 from rfl] at hx224_2);(try rw [show 0 * 3 = 0 from rfl] at hx224_2);(try rw [Addr.add_zero'] at hx224_2);replace hx224_0:=(HB.out.cell (bl_ w _ hx224_0)).trans hx224_0;replace hx224_1:=(HB.out.cell (bl_ w _ hx224_1)).trans hx224_1;replace hx224_2:=(HB.out.cell (bl_ w _ hx224_2)).trans hx224_2;have HR224_2:=am_ hi224_2;have HC224_2:=am_ hl224_2;clear hi224_2 hl224_2;replace p224:=eq_true p224;replace q224:=eq_true q224;have ea_:=Option.some.inj (hx221_2.symm.trans hx224_2);injection ea_ with ea_ en_ ec_;subst ea_;subst ec_;clear en_;have p225 : 0≤(0 : Int):=(by omega);have q225 : 0 < (l0.length : Int):=od_ (by first|(with_reducible assumption)|assumption);obtain ⟨ad225,A225_2,c225_2,e225,hx225_0,hx225_1,hx225_2,hl225_2,hi225_2⟩:=at_T29 HR0.out 0 p225 q225;obtain rfl : ad221 = ad225:=(by injection e225);have qi225 : (0 < l0.length) = True:=eq_true (by omega);(try rw [show ((0 : Int)).toNat = 0 from rfl] at hx225_0);(try rw [show 0 * 3 = 0 from rfl] at hx225_0);(try rw [Addr.add_zero'] at hx225_0);(try rw [show ((0 : Int)).toNat = 0 from rfl] at hx225_1);(try rw [show 0 * 3 = 0 from rfl] at hx225_1);(try rw [Addr.add_zero'] at hx225_1);(try rw [show ((0 : Int)).toNat = 0 from rfl] at hx225_2);(try rw [show 0 * 3 = 0 from rfl] at hx225_2);(try rw [Addr.add_zero'] at hx225_2);replace hx225_0:=(HB.out.cell (bl_ w _ hx225_0)).trans hx225_0;replace hx225_1:=(HB.out.cell (bl_ w _ hx225_1)).trans hx225_1;replace hx225_2:=(HB.out.cell (bl_ w _ hx225_2)).trans hx225_2;have HR225_2:=am_ hi225_2;have HC225_2:=am_ hl225_2;clear hi225_2 hl225_2;replace p225:=eq_true p225;replace q225:=eq_true q225;have ea_:=Option.some.inj (hx221_2.symm.trans hx225_2);injection ea_ with ea_ en_ ec_;subst ea_;subst ec_;clear en_)|(go_at_call 45;(with_reducible refine (spec_l01Edge.calls (wrap64 ((rd_T29 l0 0).f1)) false _ A9.out).mono ?_);rintro e w' ⟨rfl,⟨nd,rfl⟩⟩))
     go_meet
     case rel=>exact ⟨_,(true),(by first|rfl|(simp;done)|(simp [*];done)),H',⟨by first|omega|exact Nat.le_refl _⟩,⟨by (with_reducible repeat (first|apply kN_|apply kD_|apply kA_));exact BK219.out⟩,⟨by (with_reducible repeat (first|apply kN_|apply kD_|apply kA_));exact BK220.out⟩,⟨by repeat (first|(with_reducible first|exact HB.out|apply bA_|apply bN_|apply bD_|refine bS_ ?_ GE219.out|refine bS_ ?_ GE220.out)|exact HB.out)⟩⟩
   ·
    replace c8:=Bool.eq_false_iff.mpr c8;subst c8;have H1 : (spec_l01Lay.j0 k l0 true (arrZ 144) (arrZ 144)) = some (r1,r2):=by rw [if_neg (show ¬ (false = true) by decide)] at H;exact H
    clear H;have H:=H1;clear H1;have H':=am_ H;clear H;have p221 : 0≤(0 : Int):=(by omega)
    have q221 : 0 < (l0.length : Int):=od_ (by first|(with_reducible assumption)|assumption);obtain ⟨ad221,A221_2,c221_2,e221,hx221_0,hx221_1,hx221_2,hl221_2,hi221_2⟩:=at_T29 HR0.out 0 p221 q221
    cases e221
    have qi221 : (0 < l0.length) = True:=eq_true (by omega);(try rw [show ((0 : Int)).toNat = 0 from rfl] at hx221_0);(try rw [show 0 * 3 = 0 from rfl] at hx221_0);(try rw [Addr.add_zero'] at hx221_0);(try rw [show ((0 : Int)).toNat = 0 from rfl] at hx221_1);(try rw [show 0 * 3 = 0 from rfl] at hx221_1);(try rw [Addr.add_zero'] at hx221_1);(try rw [show ((0 : Int)).toNat = 0 from rfl] at hx221_2);(try rw [show 0 * 3 = 0 from rfl] at hx221_2);(try rw [Addr.add_zero'] at hx221_2);replace hx221_0:=(HB.out.cell (bl_ w _ hx221_0)).trans hx221_0;replace hx221_1:=(HB.out.cell (bl_ w _ hx221_1)).trans hx221_1;replace hx221_2:=(HB.out.cell (bl_ w _ hx221_2)).trans hx221_2;have HR221_2:=am_ hi221_2;have HC221_2:=am_ hl221_2;clear hi221_2 hl221_2;replace p221:=eq_true p221;replace q221:=eq_true q221;have p222 : 0≤(0 : Int):=(by omega)
    have q222 : 0 < (l0.length : Int):=od_ (by first|(with_reducible assumption)|assumption);obtain ⟨ad222,A222_2,c222_2,e222,hx222_0,hx222_1,hx222_2,hl222_2,hi222_2⟩:=at_T29 HR0.out 0 p222 q222;obtain rfl : ad221 = ad222:=(by injection e222)
    have qi222 : (0 < l0.length) = True:=eq_true (by omega);(try rw [show ((0 : Int)).toNat = 0 from rfl] at hx222_0);(try rw [show 0 * 3 = 0 from rfl] at hx222_0);(try rw [Addr.add_zero'] at hx222_0);(try rw [show ((0 : Int)).toNat = 0 from rfl] at hx222_1);(try rw [show 0 * 3 = 0 from rfl] at hx222_1);(try rw [Addr.add_zero'] at hx222_1);(try rw [show ((0 : Int)).toNat = 0 from rfl] at hx222_2);(try rw [show 0 * 3 = 0 from rfl] at hx222_2);(try rw [Addr.add_zero'] at hx222_2);replace hx222_0:=(HB.out.cell (bl_ w _ hx222_0)).trans hx222_0;replace hx222_1:=(HB.out.cell (bl_ w _ hx222_1)).trans hx222_1;replace hx222_2:=(HB.out.cell (bl_ w _ hx222_2)).trans hx222_2;have HR222_2:=am_ hi222_2;have HC222_2:=am_ hl222_2;clear hi222_2 hl222_2;replace p222:=eq_true p222;replace q222:=eq_true q222;have ea_:=Option.some.inj (hx221_2.symm.trans hx222_2)
    injection ea_ with ea_ en_ ec_
    subst ea_;subst ec_;clear en_
    go_wp2_with (first|((with_reducible refine gate_callee (f:=45) rfl ?_);refine goesL_ (some 15) rfl rfl Try.func45 (by kernel_rfl) rfl #[.int .i64 (wrap64 ((rd_T29 l0 0).f0))] rfl (by (try simp only [List.map_toArray,List.map_cons,List.map_nil]);first|done|rfl|(simp only [List.length_drop,List.length_take];rfl)) ?_;(with_reducible refine (spec_l01Edge.calls (wrap64 ((rd_T29 l0 0).f0)) false _ A7.out).mono ?_);rintro e w' ⟨rfl,⟨nd,rfl⟩⟩;refine ⟨_,rfl,?_⟩))
    go_meet
    case rel=>exact ⟨_,(true),(by first|rfl|(simp;done)|(simp [*];done)),H',⟨by first|omega|exact Nat.le_refl _⟩,⟨by (with_reducible repeat (first|apply kN_|apply kD_|apply kA_));exact BK219.out⟩,⟨by (with_reducible repeat (first|apply kN_|apply kD_|apply kA_));exact BK220.out⟩,⟨by repeat (first|(with_reducible first|exact HB.out|apply bA_|apply bN_|apply bD_|refine bS_ ?_ GE219.out|refine bS_ ?_ GE220.out)|exact HB.out)⟩⟩
  ·
   rw [if_neg c6] at H;exact absurd H (by simp)
 case rest =>
  clear HC2;(try clear c1);(try clear c2);(try clear p2);(try clear q2);(try clear hx2);(try clear qi2);(try clear c4);(try clear c6);(try clear c6b0);(try clear c6b1);(try clear p6);(try clear c7);(try clear c8);(try clear c10);(try clear hx221_0);(try clear hx221_1);(try clear hx221_2);(try clear hx222_0);(try clear hx222_1);(try clear hx222_2);(try clear hx224_0);(try clear hx224_1);(try clear hx224_2);(try clear hx225_0);(try clear hx225_1);(try clear hx225_2);(try clear hx227_0);(try clear hx227_1);(try clear hx227_2);(try clear hx228_0);(try clear hx228_1);(try clear hx228_2);(try clear p221);(try clear p222);(try clear p224);(try clear p225);(try clear p227);(try clear p228);(try clear q221);(try clear q222);(try clear q224);(try clear q225);(try clear q227);(try clear q228);obtain ⟨kq,x33_1,rfl,HA,HJ1,BK219,BK220,HB⟩:=hcut
  cases kq with
  | zero=>exact absurd HA.out (by simp [spec_l01Lay.j0])
  | succ kj1 =>
   have H:=HA.out;clear HA;simp only [spec_l01Lay.j0] at H
   by_cases c11 : x33_1 = true
   ·
    subst c11;have H1 : (if (arrZ 144).length = 144 then (if (arrZ 144).length = 144 then (some ((arrZ 144),false)) else (none)) else (none)) = some (r1,r2):=by rw [if_pos rfl] at H;exact H
    clear H;have H:=H1;clear H1
    by_cases c12 : (arrZ 144).length = 144
    ·
     rw [if_pos c12] at H;have c12b0:=eq_true c12;have c12b1 : decide ((arrZ 144).length = 144) = true:=decide_eq_true c12;clear c12
     by_cases c13 : (arrZ 144).length = 144
     ·
      rw [if_pos c13] at H;have c13b0:=eq_true c13;have c13b1 : decide ((arrZ 144).length = 144) = true:=decide_eq_true c13;clear c13;simp only [Option.some.injEq,Prod.mk.injEq] at H;obtain ⟨rfl,rfl⟩:=H
      go_wp2_with (first|((with_reducible refine gate_dst (N:=34) rfl ?_);(try (refine gate_guard (by rfl) ?_;dsimp only));refine arr_load (p:=4) (n:=144) (k:=.i64) (g:=gb220) (l:=(arrZ 144)) ?hg (N:=34) ?hd (t:=91) ?ho ?hp BK220.out Try.underlying91 (by kernel_rfl) (od_ (by first|(with_reducible assumption)|assumption)) ?_;(case hd=>rfl);(case hg=>rfl);(case ho=>rfl);(case hp=>rfl))|((with_reducible refine gate_store (t:=91) (p:=2) rfl ?_);refine arr_store (p:=2) (v:=?vv_w14) (n:=144) (k:=.i64) (g:=gb219) (l:=(arrZ 144)) (l2:=(arrZ 144)) ?hg ?hn (t:=91) ?ho ?hp ?hv BK219.out (by kernel_rfl) (od_ (by first|(with_reducible assumption)|assumption)) (od_ (by first|(with_reducible assumption)|assumption)) ?_;(case ho=>rfl);(case hg=>rfl);(case hn=>rfl);(case hp=>rfl);(case hv=>rfl);intro w14 hg hx;have n0_:=am_ (hx);have n1_:=am_ (blk_grown (g:=gb220) (o:=.cells (arrC .i64 (arrZ 144)) 91 (0,0)) BK220.out hg (fun e_=>NB220_219.out (Option.some.inj e_)));have n2_:=am_ (Below.grown HB.out hg (bZ_ HB.out) (fun k_ e_=>by cases e_;exact GE219.out));clear BK219;clear BK220;clear HB;have BK219:=n0_;have BK220:=n1_;have HB:=n2_;clear n0_ n1_ n2_;clear hg hx))
      refine bodyPost_ret (results_ct rfl _ _ gb219 91 (arrC .i64 (arrZ 144)) (0,0) _ rfl BK219.out Try.underlying91 rfl (by first|(rw [arrC_size,(od_ (by first|(with_reducible assumption)|assumption) : (arrZ 144).length = 144)];kernel_rfl)|kernel_rfl)) rfl ?_;exact ⟨by first|rfl|(simp [errW_none,errW_some] <;> rfl)|(simp [*,errW_none,errW_some] <;> rfl),by repeat (first|(with_reducible first|exact HB.out|apply bA_|apply bN_|apply bD_|refine bS_ ?_ GE219.out|refine bS_ ?_ GE220.out)|exact HB.out)⟩
     ·
      rw [if_neg c13] at H;exact absurd H (by simp)
    ·
     rw [if_neg c12] at H;exact absurd H (by simp)
   ·
    replace c11:=Bool.eq_false_iff.mpr c11;subst c11;have H1 : (spec_l01Lay.l0 kj1 l0 0 (arrZ 144) (arrZ 144)) = some (r1,r2):=by rw [if_neg (show ¬ (false = true) by decide)] at H;exact H
    clear H;have H:=H1;clear H1;have H':=am_ H;clear H
    go_wp2
    go_loopg [5] kj1 (fun kq v5 w'=>∃ (x5_2 : Int) (x220000_2 : List Int) (x221000_2 : List Int),v5 = .int .i64 x5_2 ∧ Aside0 (spec_l01Lay.l0 kq l0 x5_2 x220000_2 x221000_2 = some (r1,r2)) ∧ Aside0 (kq≤kj1) ∧ Aside0 (w'.heap[gb219]? = some (.cells (arrC .i64 x220000_2) 91 (0,0))) ∧ Aside0 (w'.heap[gb220]? = some (.cells (arrC .i64 x221000_2) 91 (0,0))) ∧ Aside0 (Below w.heap.size w w'))
    case atStart=>exact ⟨(0),((arrZ 144)),((arrZ 144)),(by first|rfl|(simp;done)|(simp [*];done)),H',⟨Nat.le_refl _⟩,⟨by (with_reducible repeat (first|apply kN_|apply kD_|apply kA_));exact BK219.out⟩,⟨by (with_reducible repeat (first|apply kN_|apply kD_|apply kA_));exact BK220.out⟩,⟨by repeat (first|(with_reducible first|exact HB.out|apply bA_|apply bN_|apply bD_|refine bS_ ?_ GE219.out|refine bS_ ?_ GE220.out)|exact HB.out)⟩⟩
    case round =>
     clear H';(try clear c1);(try clear c2);(try clear p2);(try clear q2);(try clear hx2);(try clear qi2);(try clear c4);(try clear c6);(try clear c6b0);(try clear c6b1);(try clear p6);(try clear c7);(try clear c8);(try clear c10);(try clear c11);(try clear c12);(try clear c12b0);(try clear c12b1);(try clear c13);(try clear c13b0);(try clear c13b1);(try clear hx221_0);(try clear hx221_1);(try clear hx221_2);(try clear hx222_0);(try clear hx222_1);(try clear hx222_2);(try clear hx224_0);(try clear hx224_1);(try clear hx224_2);(try clear hx225_0);(try clear hx225_1);(try clear hx225_2);(try clear hx227_0);(try clear hx227_1);(try clear hx227_2);(try clear hx228_0);(try clear hx228_1);(try clear hx228_2);(try clear p2);(try clear p221);(try clear p222);(try clear p224);(try clear p225);(try clear p227);(try clear p228);(try clear p6);(try clear q2);(try clear q221);(try clear q222);(try clear q224);(try clear q225);(try clear q227);(try clear q228);obtain ⟨x5_2,x220000_2,x221000_2,rfl,HA,HK2,BK219,BK220,HB⟩:=hrel
     cases gk with
     | zero=>exact absurd HA.out (by simp [spec_l01Lay.l0])
     | succ k2 =>
      have H:=HA.out;clear HA;simp only [spec_l01Lay.l0] at H
      by_cases c15 : 0 < (l0.length : Int)
      ·
       rw [if_pos c15] at H;have c15b0 : decide (0 < (l0.length : Int)) = true:=decide_eq_true c15;have c15b1 : decide (0 < l0.length) = true:=decide_eq_true (by omega);clear c15
       by_cases c16 : x5_2 < (((rd_T29 l0 0).f2).length : Int)
       ·
        rw [if_pos c16] at H;have c16b0 : decide (x5_2 < (((rd_T29 l0 0).f2).length : Int)) = true:=decide_eq_true c16;clear c16
        by_cases c17 : 0≤x5_2
        ·
         rw [if_pos c17] at H;have c17b0 : decide (0≤x5_2) = true:=decide_eq_true c17;clear c17;have HC18:=am_ H;clear H;have p229 : 0≤(0 : Int):=(by omega)
         have q229 : 0 < (l0.length : Int):=od_ (by first|(with_reducible assumption)|assumption);obtain ⟨ad229,A229_2,c229_2,e229,hx229_0,hx229_1,hx229_2,hl229_2,hi229_2⟩:=at_T29 HR0.out 0 p229 q229
         cases e229
         have qi229 : (0 < l0.length) = True:=eq_true (by omega);(try rw [show ((0 : Int)).toNat = 0 from rfl] at hx229_0);(try rw [show 0 * 3 = 0 from rfl] at hx229_0);(try rw [Addr.add_zero'] at hx229_0);(try rw [show ((0 : Int)).toNat = 0 from rfl] at hx229_1);(try rw [show 0 * 3 = 0 from rfl] at hx229_1);(try rw [Addr.add_zero'] at hx229_1);(try rw [show ((0 : Int)).toNat = 0 from rfl] at hx229_2);(try rw [show 0 * 3 = 0 from rfl] at hx229_2);(try rw [Addr.add_zero'] at hx229_2);replace hx229_0:=(HB.out.cell (bl_ w _ hx229_0)).trans hx229_0;replace hx229_1:=(HB.out.cell (bl_ w _ hx229_1)).trans hx229_1;replace hx229_2:=(HB.out.cell (bl_ w _ hx229_2)).trans hx229_2;have HR229_2:=am_ hi229_2;have HC229_2:=am_ hl229_2;clear hi229_2 hl229_2;replace p229:=eq_true p229;replace q229:=eq_true q229;have p230 : 0≤(0 : Int):=(by omega)
         have q230 : 0 < (l0.length : Int):=od_ (by first|(with_reducible assumption)|assumption);obtain ⟨ad230,A230_2,c230_2,e230,hx230_0,hx230_1,hx230_2,hl230_2,hi230_2⟩:=at_T29 HR0.out 0 p230 q230;obtain rfl : ad229 = ad230:=(by injection e230)
         have qi230 : (0 < l0.length) = True:=eq_true (by omega);(try rw [show ((0 : Int)).toNat = 0 from rfl] at hx230_0);(try rw [show 0 * 3 = 0 from rfl] at hx230_0);(try rw [Addr.add_zero'] at hx230_0);(try rw [show ((0 : Int)).toNat = 0 from rfl] at hx230_1);(try rw [show 0 * 3 = 0 from rfl] at hx230_1);(try rw [Addr.add_zero'] at hx230_1);(try rw [show ((0 : Int)).toNat = 0 from rfl] at hx230_2);(try rw [show 0 * 3 = 0 from rfl] at hx230_2);(try rw [Addr.add_zero'] at hx230_2);replace hx230_0:=(HB.out.cell (bl_ w _ hx230_0)).trans hx230_0;replace hx230_1:=(HB.out.cell (bl_ w _ hx230_1)).trans hx230_1;replace hx230_2:=(HB.out.cell (bl_ w _ hx230_2)).trans hx230_2;have HR230_2:=am_ hi230_2;have HC230_2:=am_ hl230_2;clear hi230_2 hl230_2;replace p230:=eq_true p230;replace q230:=eq_true q230;have ea_:=Option.some.inj (hx229_2.symm.trans hx230_2)
         injection ea_ with ea_ en_ ec_
         subst ea_;subst ec_;clear en_;have p231 : 0≤(0 : Int):=(by omega)
         have q231 : 0 < (l0.length : Int):=od_ (by first|(with_reducible assumption)|assumption);obtain ⟨ad231,A231_2,c231_2,e231,hx231_0,hx231_1,hx231_2,hl231_2,hi231_2⟩:=at_T29 HR0.out 0 p231 q231;obtain rfl : ad229 = ad231:=(by injection e231)
         have qi231 : (0 < l0.length) = True:=eq_true (by omega);(try rw [show ((0 : Int)).toNat = 0 from rfl] at hx231_0);(try rw [show 0 * 3 = 0 from rfl] at hx231_0);(try rw [Addr.add_zero'] at hx231_0);(try rw [show ((0 : Int)).toNat = 0 from rfl] at hx231_1);(try rw [show 0 * 3 = 0 from rfl] at hx231_1);(try rw [Addr.add_zero'] at hx231_1);(try rw [show ((0 : Int)).toNat = 0 from rfl] at hx231_2);(try rw [show 0 * 3 = 0 from rfl] at hx231_2);(try rw [Addr.add_zero'] at hx231_2);replace hx231_0:=(HB.out.cell (bl_ w _ hx231_0)).trans hx231_0;replace hx231_1:=(HB.out.cell (bl_ w _ hx231_1)).trans hx231_1;replace hx231_2:=(HB.out.cell (bl_ w _ hx231_2)).trans hx231_2;have HR231_2:=am_ hi231_2;have HC231_2:=am_ hl231_2;clear hi231_2 hl231_2;replace p231:=eq_true p231;replace q231:=eq_true q231;have ea_:=Option.some.inj (hx229_2.symm.trans hx231_2)
         injection ea_ with ea_ en_ ec_
         subst ea_;subst ec_;clear en_;have p232 : 0≤(0 : Int):=(by omega)
         have q232 : 0 < (l0.length : Int):=od_ (by first|(with_reducible assumption)|assumption);obtain ⟨ad232,A232_2,c232_2,e232,hx232_0,hx232_1,hx232_2,hl232_2,hi232_2⟩:=at_T29 HR0.out 0 p232 q232;obtain rfl : ad229 = ad232:=(by injection e232)
         have qi232 : (0 < l0.length) = True:=eq_true (by omega);(try rw [show ((0 : Int)).toNat = 0 from rfl] at hx232_0);(try rw [show 0 * 3 = 0 from rfl] at hx232_0);(try rw [Addr.add_zero'] at hx232_0);(try rw [show ((0 : Int)).toNat = 0 from rfl] at hx232_1);(try rw [show 0 * 3 = 0 from rfl] at hx232_1);(try rw [Addr.add_zero'] at hx232_1);(try rw [show ((0 : Int)).toNat = 0 from rfl] at hx232_2);(try rw [show 0 * 3 = 0 from rfl] at hx232_2);(try rw [Addr.add_zero'] at hx232_2);replace hx232_0:=(HB.out.cell (bl_ w _ hx232_0)).trans hx232_0;replace hx232_1:=(HB.out.cell (bl_ w _ hx232_1)).trans hx232_1;replace hx232_2:=(HB.out.cell (bl_ w _ hx232_2)).trans hx232_2;have HR232_2:=am_ hi232_2;have HC232_2:=am_ hl232_2;clear hi232_2 hl232_2;replace p232:=eq_true p232;replace q232:=eq_true q232;have ea_:=Option.some.inj (hx229_2.symm.trans hx232_2)
         injection ea_ with ea_ en_ ec_
         subst ea_;subst ec_;clear en_;have p233 : 0≤(x5_2 : Int):=od_ (by first|(with_reducible assumption)|assumption);have q233 : x5_2 < (((rd_T29 l0 0).f2).length : Int):=od_ (by first|(with_reducible assumption)|assumption);obtain ⟨ad233,e233,hx233_0,hx233_1,hx233_2,hx233_3⟩:=at_T49 HR232_2.out x5_2 p233 q233
         cases e233
         replace hx233_0:=(HB.out.cell (bl_ w _ hx233_0)).trans hx233_0;replace hx233_1:=(HB.out.cell (bl_ w _ hx233_1)).trans hx233_1;replace hx233_2:=(HB.out.cell (bl_ w _ hx233_2)).trans hx233_2;replace hx233_3:=(HB.out.cell (bl_ w _ hx233_3)).trans hx233_3;replace p233:=eq_true p233;replace q233:=eq_true q233
         go_upto_region 8 with (first|((with_reducible refine gate_dst (N:=6) rfl ?_);(try (refine gate_guard (by rfl) ?_;dsimp only));refine box_event ?hg (N:=6) ?hd (cs:=#[.int .i8 0,.int .i8 0,.int .i8 0,.int .i8 0]) (t:=49) ?hr ?_;(case hd=>rfl);(case hg=>rfl);(case hr=>first|(go_simp;done)|(go_simp;rfl));intro gb234 hg w19 hbox hb;have n0_:=am_ (kB_ (g:=gb219) (o:=.cells (arrC .i64 x220000_2) 91 (0,0)) BK219.out hb);have n1_:=am_ (kB_ (g:=gb220) (o:=.cells (arrC .i64 x221000_2) 91 (0,0)) BK220.out hb);have n2_:=am_ (bT_ HB.out hb);have n3_:=am_ (hbox);have n4_:=am_ ((by rw [hg];exact (bZ_ HB.out) : w.heap.size≤gb234));have n5_:=n4_;have n6_:=am_ ((by rw [hg];exact nL_ (kL_ (g:=gb219) (o:=.cells (arrC .i64 x220000_2) 91 (0,0)) BK219.out) : gb219 ≠ gb234));have n7_:=am_ ((by rw [hg];exact nG_ (kL_ (g:=gb219) (o:=.cells (arrC .i64 x220000_2) 91 (0,0)) BK219.out) : gb234 ≠ gb219));have n8_:=am_ ((by rw [hg];exact nL_ (kL_ (g:=gb220) (o:=.cells (arrC .i64 x221000_2) 91 (0,0)) BK220.out) : gb220 ≠ gb234));have n9_:=am_ ((by rw [hg];exact nG_ (kL_ (g:=gb220) (o:=.cells (arrC .i64 x221000_2) 91 (0,0)) BK220.out) : gb234 ≠ gb220));clear BK219;clear BK220;clear HB;have BK219:=n0_;have BK220:=n1_;have HB:=n2_;have BK234:=n3_;have GW234:=n4_;have GE234:=n5_;have NB219_234:=n6_;have NB234_219:=n7_;have NB220_234:=n8_;have NB234_220:=n9_;clear n0_ n1_ n2_ n3_ n4_ n5_ n6_ n7_ n8_ n9_;clear hb hbox hg;have hnb20:=NB234_219.out;have hnc20:=NB219_234.out;have hnb21:=NB234_220.out;have hnc21:=NB220_234.out;have hcz22_0 : w19.cell? ⟨gb234,0,none⟩ = some (.int .i8 0):=(kC_ BK234.out 0).trans rfl;have hcz22_1 : w19.cell? ⟨gb234,1,none⟩ = some (.int .i8 0):=(kC_ BK234.out 1).trans rfl;have hcz22_2 : w19.cell? ⟨gb234,2,none⟩ = some (.int .i8 0):=(kC_ BK234.out 2).trans rfl;have hcz22_3 : w19.cell? ⟨gb234,3,none⟩ = some (.int .i8 0):=(kC_ BK234.out 3).trans rfl;have hfz22_0:=kF_ BK234.out 0;have hfz22_1:=kF_ BK234.out 1;have hfz22_2:=kF_ BK234.out 2;have hfz22_3:=kF_ BK234.out 3))
         (try simp only [Act.put,z1_,z2_,z3_])
         go_cut [71] (fun v71 wc=>∃ (kq : Nat) (x71_17 : Bool),v71 = .bool x71_17 ∧ Aside0 (spec_l01Lay.j2 kq l0 x5_2 x71_17 x220000_2 x221000_2 ((rd_T49 ((rd_T29 l0 0).f2) x5_2).f0) ((rd_T49 ((rd_T29 l0 0).f2) x5_2).f1) ((rd_T49 ((rd_T29 l0 0).f2) x5_2).f2) ((rd_T49 ((rd_T29 l0 0).f2) x5_2).f3) = some (r1,r2)) ∧ Aside0 (kq≤k2) ∧ Aside0 (wc.heap[gb219]? = some (.cells (arrC .i64 x220000_2) 91 (0,0))) ∧ Aside0 (wc.heap[gb220]? = some (.cells (arrC .i64 x221000_2) 91 (0,0))) ∧ Aside0 (wc.heap[gb234]? = some (.cells #[.int .i8 ((rd_T49 ((rd_T29 l0 0).f2) x5_2).f0),.int .i8 ((rd_T49 ((rd_T29 l0 0).f2) x5_2).f1),.int .i8 ((rd_T49 ((rd_T29 l0 0).f2) x5_2).f2),.int .i8 ((rd_T49 ((rd_T29 l0 0).f2) x5_2).f3)] 49 (0,0))) ∧ Aside0 (Below w.heap.size w wc))
         case first =>
          have H:=HC18.out;clear HC18;replace H:=Option.bind_eq_some_iff.mp H;obtain ⟨t235,A230,H⟩:=H;replace H : (if t235 = true then (if x5_2 > 0 then (if 0≤(wrap64 (x5_2 - 1)) then (if (wrap64 (x5_2 - 1)) < (((rd_T29 l0 0).f2).length : Int) then ((spec_l01Before.f ((rd_T49 ((rd_T29 l0 0).f2) (wrap64 (x5_2 - 1))).f0) ((rd_T49 ((rd_T29 l0 0).f2) (wrap64 (x5_2 - 1))).f1) ((rd_T49 ((rd_T29 l0 0).f2) (wrap64 (x5_2 - 1))).f2) ((rd_T49 ((rd_T29 l0 0).f2) (wrap64 (x5_2 - 1))).f3) ((rd_T49 ((rd_T29 l0 0).f2) x5_2).f0) ((rd_T49 ((rd_T29 l0 0).f2) x5_2).f1) ((rd_T49 ((rd_T29 l0 0).f2) x5_2).f2) ((rd_T49 ((rd_T29 l0 0).f2) x5_2).f3)).bind fun t239=>(spec_l01Lay.j2 k2 l0 x5_2 (!t239) x220000_2 x221000_2 ((rd_T49 ((rd_T29 l0 0).f2) x5_2).f0) ((rd_T49 ((rd_T29 l0 0).f2) x5_2).f1) ((rd_T49 ((rd_T29 l0 0).f2) x5_2).f2) ((rd_T49 ((rd_T29 l0 0).f2) x5_2).f3))) else (none)) else (none)) else (spec_l01Lay.j2 k2 l0 x5_2 false x220000_2 x221000_2 ((rd_T49 ((rd_T29 l0 0).f2) x5_2).f0) ((rd_T49 ((rd_T29 l0 0).f2) x5_2).f1) ((rd_T49 ((rd_T29 l0 0).f2) x5_2).f2) ((rd_T49 ((rd_T29 l0 0).f2) x5_2).f3))) else (spec_l01Lay.j2 k2 l0 x5_2 true x220000_2 x221000_2 ((rd_T49 ((rd_T29 l0 0).f2) x5_2).f0) ((rd_T49 ((rd_T29 l0 0).f2) x5_2).f1) ((rd_T49 ((rd_T29 l0 0).f2) x5_2).f2) ((rd_T49 ((rd_T29 l0 0).f2) x5_2).f3))) = some (r1,r2):=H;have A23:=am_ A230;clear A230
          by_cases c24 : t235 = true
          ·
           subst c24;have H1 : (if x5_2 > 0 then (if 0≤(wrap64 (x5_2 - 1)) then (if (wrap64 (x5_2 - 1)) < (((rd_T29 l0 0).f2).length : Int) then ((spec_l01Before.f ((rd_T49 ((rd_T29 l0 0).f2) (wrap64 (x5_2 - 1))).f0) ((rd_T49 ((rd_T29 l0 0).f2) (wrap64 (x5_2 - 1))).f1) ((rd_T49 ((rd_T29 l0 0).f2) (wrap64 (x5_2 - 1))).f2) ((rd_T49 ((rd_T29 l0 0).f2) (wrap64 (x5_2 - 1))).f3) ((rd_T49 ((rd_T29 l0 0).f2) x5_2).f0) ((rd_T49 ((rd_T29 l0 0).f2) x5_2).f1) ((rd_T49 ((rd_T29 l0 0).f2) x5_2).f2) ((rd_T49 ((rd_T29 l0 0).f2) x5_2).f3)).bind fun t239=>(spec_l01Lay.j2 k2 l0 x5_2 (!t239) x220000_2 x221000_2 ((rd_T49 ((rd_T29 l0 0).f2) x5_2).f0) ((rd_T49 ((rd_T29 l0 0).f2) x5_2).f1) ((rd_T49 ((rd_T29 l0 0).f2) x5_2).f2) ((rd_T49 ((rd_T29 l0 0).f2) x5_2).f3))) else (none)) else (none)) else (spec_l01Lay.j2 k2 l0 x5_2 false x220000_2 x221000_2 ((rd_T49 ((rd_T29 l0 0).f2) x5_2).f0) ((rd_T49 ((rd_T29 l0 0).f2) x5_2).f1) ((rd_T49 ((rd_T29 l0 0).f2) x5_2).f2) ((rd_T49 ((rd_T29 l0 0).f2) x5_2).f3))) = some (r1,r2):=by rw [if_pos rfl] at H;exact H
           clear H;have H:=H1;clear H1
           by_cases c25 : x5_2 > 0
           ·
            rw [if_pos c25] at H;have c25b0 : decide (0 < x5_2) = true:=decide_eq_true c25;clear c25
            (first|rw [c25b0]|(simp only [i64_w,i32_w];rw [c25b0])|skip)
            obtain ⟨ji26,hji26⟩ : ∃ j_ : Int,(wrap64 (x5_2 - 1)) = j_:=⟨_,rfl⟩
            replace H : (if 0≤(ji26) then (if (ji26) < (((rd_T29 l0 0).f2).length : Int) then ((spec_l01Before.f ((rd_T49 ((rd_T29 l0 0).f2) (ji26)).f0) ((rd_T49 ((rd_T29 l0 0).f2) (ji26)).f1) ((rd_T49 ((rd_T29 l0 0).f2) (ji26)).f2) ((rd_T49 ((rd_T29 l0 0).f2) (ji26)).f3) ((rd_T49 ((rd_T29 l0 0).f2) x5_2).f0) ((rd_T49 ((rd_T29 l0 0).f2) x5_2).f1) ((rd_T49 ((rd_T29 l0 0).f2) x5_2).f2) ((rd_T49 ((rd_T29 l0 0).f2) x5_2).f3)).bind fun t239=>(spec_l01Lay.j2 k2 l0 x5_2 (!t239) x220000_2 x221000_2 ((rd_T49 ((rd_T29 l0 0).f2) x5_2).f0) ((rd_T49 ((rd_T29 l0 0).f2) x5_2).f1) ((rd_T49 ((rd_T29 l0 0).f2) x5_2).f2) ((rd_T49 ((rd_T29 l0 0).f2) x5_2).f3))) else (none)) else (none)) = some (r1,r2):=by first|(rw [hji26] at H;exact H)|(simp only [hji26] at H ⊢;exact H)
            (try rw [hji26] at A23);have hji26w : (IntKind.i64.wrap (x5_2 - 1)) = ji26:=(i64_w _).trans hji26
            by_cases c27 : 0≤(ji26)
            ·
             rw [if_pos c27] at H;have c27b0 : decide (0≤(ji26)) = true:=decide_eq_true c27;clear c27
             by_cases c28 : (ji26) < (((rd_T29 l0 0).f2).length : Int)
             ·
              rw [if_pos c28] at H;have c28b0 : decide ((ji26) < (((rd_T29 l0 0).f2).length : Int)) = true:=decide_eq_true c28;clear c28;replace H:=Option.bind_eq_some_iff.mp H;obtain ⟨t239,A290,H⟩:=H;replace H : (spec_l01Lay.j2 k2 l0 x5_2 (!t239) x220000_2 x221000_2 ((rd_T49 ((rd_T29 l0 0).f2) x5_2).f0) ((rd_T49 ((rd_T29 l0 0).f2) x5_2).f1) ((rd_T49 ((rd_T29 l0 0).f2) x5_2).f2) ((rd_T49 ((rd_T29 l0 0).f2) x5_2).f3)) = some (r1,r2):=H;have A29:=am_ A290;clear A290;have H':=am_ H;clear H
              try go_wp2
              have n0_ : Aside0 (((((w19.setCell ⟨gb234,0,none⟩ (.int .i8 ((rd_T49 ((rd_T29 l0 0).f2) x5_2).f0))).setCell ⟨gb234,1,none⟩ (.int .i8 ((rd_T49 ((rd_T29 l0 0).f2) x5_2).f1))).setCell ⟨gb234,2,none⟩ (.int .i8 ((rd_T49 ((rd_T29 l0 0).f2) x5_2).f2))).setCell ⟨gb234,3,none⟩ (.int .i8 ((rd_T49 ((rd_T29 l0 0).f2) x5_2).f3))).heap[gb219]? = some (.cells (arrC .i64 x220000_2) 91 (0,0))):=⟨by (with_reducible repeat (first|apply kN_|apply kD_|apply kA_));refine kX_ ?_ NB219_234.out _;(with_reducible repeat (first|apply kN_|apply kD_|apply kA_));refine kX_ ?_ NB219_234.out _;(with_reducible repeat (first|apply kN_|apply kD_|apply kA_));refine kX_ ?_ NB219_234.out _;(with_reducible repeat (first|apply kN_|apply kD_|apply kA_));refine kX_ ?_ NB219_234.out _;(with_reducible repeat (first|apply kN_|apply kD_|apply kA_));exact BK219.out⟩
              have n1_ : Aside0 (((((w19.setCell ⟨gb234,0,none⟩ (.int .i8 ((rd_T49 ((rd_T29 l0 0).f2) x5_2).f0))).setCell ⟨gb234,1,none⟩ (.int .i8 ((rd_T49 ((rd_T29 l0 0).f2) x5_2).f1))).setCell ⟨gb234,2,none⟩ (.int .i8 ((rd_T49 ((rd_T29 l0 0).f2) x5_2).f2))).setCell ⟨gb234,3,none⟩ (.int .i8 ((rd_T49 ((rd_T29 l0 0).f2) x5_2).f3))).heap[gb220]? = some (.cells (arrC .i64 x221000_2) 91 (0,0))):=⟨by (with_reducible repeat (first|apply kN_|apply kD_|apply kA_));refine kX_ ?_ NB220_234.out _;(with_reducible repeat (first|apply kN_|apply kD_|apply kA_));refine kX_ ?_ NB220_234.out _;(with_reducible repeat (first|apply kN_|apply kD_|apply kA_));refine kX_ ?_ NB220_234.out _;(with_reducible repeat (first|apply kN_|apply kD_|apply kA_));refine kX_ ?_ NB220_234.out _;(with_reducible repeat (first|apply kN_|apply kD_|apply kA_));exact BK220.out⟩
              have n2_ : Aside0 (((((w19.setCell ⟨gb234,0,none⟩ (.int .i8 ((rd_T49 ((rd_T29 l0 0).f2) x5_2).f0))).setCell ⟨gb234,1,none⟩ (.int .i8 ((rd_T49 ((rd_T29 l0 0).f2) x5_2).f1))).setCell ⟨gb234,2,none⟩ (.int .i8 ((rd_T49 ((rd_T29 l0 0).f2) x5_2).f2))).setCell ⟨gb234,3,none⟩ (.int .i8 ((rd_T49 ((rd_T29 l0 0).f2) x5_2).f3))).heap[gb234]? = some (.cells #[.int .i8 ((rd_T49 ((rd_T29 l0 0).f2) x5_2).f0),.int .i8 ((rd_T49 ((rd_T29 l0 0).f2) x5_2).f1),.int .i8 ((rd_T49 ((rd_T29 l0 0).f2) x5_2).f2),.int .i8 ((rd_T49 ((rd_T29 l0 0).f2) x5_2).f3)] 49 (0,0))):=⟨by (with_reducible repeat (first|apply kN_|apply kD_|apply kA_));refine blk_put (cs:=#[.int .i8 ((rd_T49 ((rd_T29 l0 0).f2) x5_2).f0),.int .i8 ((rd_T49 ((rd_T29 l0 0).f2) x5_2).f1),.int .i8 ((rd_T49 ((rd_T29 l0 0).f2) x5_2).f2),.int .i8 0]) ?_ 3 _ rfl;(with_reducible repeat (first|apply kN_|apply kD_|apply kA_));refine blk_put (cs:=#[.int .i8 ((rd_T49 ((rd_T29 l0 0).f2) x5_2).f0),.int .i8 ((rd_T49 ((rd_T29 l0 0).f2) x5_2).f1),.int .i8 0,.int .i8 0]) ?_ 2 _ rfl;(with_reducible repeat (first|apply kN_|apply kD_|apply kA_));refine blk_put (cs:=#[.int .i8 ((rd_T49 ((rd_T29 l0 0).f2) x5_2).f0),.int .i8 0,.int .i8 0,.int .i8 0]) ?_ 1 _ rfl;(with_reducible repeat (first|apply kN_|apply kD_|apply kA_));refine blk_put (cs:=#[.int .i8 0,.int .i8 0,.int .i8 0,.int .i8 0]) ?_ 0 _ rfl;(with_reducible repeat (first|apply kN_|apply kD_|apply kA_));exact BK234.out⟩
              have n3_ : Aside0 (Below w.heap.size w ((((w19.setCell ⟨gb234,0,none⟩ (.int .i8 ((rd_T49 ((rd_T29 l0 0).f2) x5_2).f0))).setCell ⟨gb234,1,none⟩ (.int .i8 ((rd_T49 ((rd_T29 l0 0).f2) x5_2).f1))).setCell ⟨gb234,2,none⟩ (.int .i8 ((rd_T49 ((rd_T29 l0 0).f2) x5_2).f2))).setCell ⟨gb234,3,none⟩ (.int .i8 ((rd_T49 ((rd_T29 l0 0).f2) x5_2).f3)))):=⟨by repeat (first|(with_reducible first|exact HB.out|apply bA_|apply bN_|apply bD_|refine bS_ ?_ GE219.out|refine bS_ ?_ GE220.out|refine bS_ ?_ GE234.out)|exact HB.out)⟩
              (try clear BK219);(try clear BK220);(try clear BK234);(try clear HB);generalize ((((w19.setCell ⟨gb234,0,none⟩ (.int .i8 ((rd_T49 ((rd_T29 l0 0).f2) x5_2).f0))).setCell ⟨gb234,1,none⟩ (.int .i8 ((rd_T49 ((rd_T29 l0 0).f2) x5_2).f1))).setCell ⟨gb234,2,none⟩ (.int .i8 ((rd_T49 ((rd_T29 l0 0).f2) x5_2).f2))).setCell ⟨gb234,3,none⟩ (.int .i8 ((rd_T49 ((rd_T29 l0 0).f2) x5_2).f3))) = w30 at n0_ n1_ n2_ n3_ ⊢;have BK219:=n0_;have BK220:=n1_;have BK234:=n2_;have HB:=n3_;clear n0_ n1_ n2_ n3_;have n0_:=am_ (kD_ BK219.out);have n1_:=am_ (kD_ BK220.out);have n2_:=am_ (kD_ BK234.out);have n3_:=am_ (bD_ HB.out);clear BK219;clear BK220;clear BK234;clear HB;have BK219:=n0_;have BK220:=n1_;have BK234:=n2_;have HB:=n3_;clear n0_ n1_ n2_ n3_;have p236 : 0≤(0 : Int):=(by omega)
              have q236 : 0 < (l0.length : Int):=od_ (by first|(with_reducible assumption)|assumption);obtain ⟨ad236,A236_2,c236_2,e236,hx236_0,hx236_1,hx236_2,hl236_2,hi236_2⟩:=at_T29 HR0.out 0 p236 q236;have hw236_2:=hx236_2;(try rw [show ((0 : Int)).toNat = 0 from rfl] at hw236_2);(try rw [show 0 * 3 = 0 from rfl] at hw236_2);(try rw [Addr.add_zero'] at hw236_2);have hw236_1:=hx236_1;(try rw [show ((0 : Int)).toNat = 0 from rfl] at hw236_1);(try rw [show 0 * 3 = 0 from rfl] at hw236_1);(try rw [Addr.add_zero'] at hw236_1);have hw236_0:=hx236_0;(try rw [show ((0 : Int)).toNat = 0 from rfl] at hw236_0);(try rw [show 0 * 3 = 0 from rfl] at hw236_0);(try rw [Addr.add_zero'] at hw236_0);obtain rfl : ad229 = ad236:=(by injection e236)
              have qi236 : (0 < l0.length) = True:=eq_true (by omega);(try rw [show ((0 : Int)).toNat = 0 from rfl] at hx236_0);(try rw [show 0 * 3 = 0 from rfl] at hx236_0);(try rw [Addr.add_zero'] at hx236_0);(try rw [show ((0 : Int)).toNat = 0 from rfl] at hx236_1);(try rw [show 0 * 3 = 0 from rfl] at hx236_1);(try rw [Addr.add_zero'] at hx236_1);(try rw [show ((0 : Int)).toNat = 0 from rfl] at hx236_2);(try rw [show 0 * 3 = 0 from rfl] at hx236_2);(try rw [Addr.add_zero'] at hx236_2);replace hx236_0:=(HB.out.cell (bl_ w _ hx236_0)).trans hx236_0;replace hx236_1:=(HB.out.cell (bl_ w _ hx236_1)).trans hx236_1;replace hx236_2:=(HB.out.cell (bl_ w _ hx236_2)).trans hx236_2;have HR236_2:=am_ hi236_2;have HC236_2:=am_ hl236_2;clear hi236_2 hl236_2;replace p236:=eq_true p236;replace q236:=eq_true q236;have p237 : 0≤(0 : Int):=(by omega)
              have q237 : 0 < (l0.length : Int):=od_ (by first|(with_reducible assumption)|assumption);obtain ⟨ad237,A237_2,c237_2,e237,hx237_0,hx237_1,hx237_2,hl237_2,hi237_2⟩:=at_T29 HR0.out 0 p237 q237;have hw237_2:=hx237_2;(try rw [show ((0 : Int)).toNat = 0 from rfl] at hw237_2);(try rw [show 0 * 3 = 0 from rfl] at hw237_2);(try rw [Addr.add_zero'] at hw237_2);have hw237_1:=hx237_1;(try rw [show ((0 : Int)).toNat = 0 from rfl] at hw237_1);(try rw [show 0 * 3 = 0 from rfl] at hw237_1);(try rw [Addr.add_zero'] at hw237_1);have hw237_0:=hx237_0;(try rw [show ((0 : Int)).toNat = 0 from rfl] at hw237_0);(try rw [show 0 * 3 = 0 from rfl] at hw237_0);(try rw [Addr.add_zero'] at hw237_0);obtain rfl : ad229 = ad237:=(by injection e237)
              have qi237 : (0 < l0.length) = True:=eq_true (by omega);(try rw [show ((0 : Int)).toNat = 0 from rfl] at hx237_0);(try rw [show 0 * 3 = 0 from rfl] at hx237_0);(try rw [Addr.add_zero'] at hx237_0);(try rw [show ((0 : Int)).toNat = 0 from rfl] at hx237_1);(try rw [show 0 * 3 = 0 from rfl] at hx237_1);(try rw [Addr.add_zero'] at hx237_1);(try rw [show ((0 : Int)).toNat = 0 from rfl] at hx237_2);(try rw [show 0 * 3 = 0 from rfl] at hx237_2);(try rw [Addr.add_zero'] at hx237_2);replace hx237_0:=(HB.out.cell (bl_ w _ hx237_0)).trans hx237_0;replace hx237_1:=(HB.out.cell (bl_ w _ hx237_1)).trans hx237_1;replace hx237_2:=(HB.out.cell (bl_ w _ hx237_2)).trans hx237_2;have HR237_2:=am_ hi237_2;have HC237_2:=am_ hl237_2;clear hi237_2 hl237_2;replace p237:=eq_true p237;replace q237:=eq_true q237;have ea_:=Option.some.inj (hx236_2.symm.trans hx237_2)
              injection ea_ with ea_ en_ ec_
              subst ea_;subst ec_;clear en_;have p238 : 0≤((ji26) : Int):=od_ (by first|(with_reducible assumption)|assumption);have q238 : (ji26) < (((rd_T29 l0 0).f2).length : Int):=od_ (by first|(with_reducible assumption)|assumption);obtain ⟨ad238,e238,hx238_0,hx238_1,hx238_2,hx238_3⟩:=at_T49 HR237_2.out (ji26) p238 q238;have hw238_3:=hx238_3;have hw238_2:=hx238_2;have hw238_1:=hx238_1;have hw238_0:=hx238_0
              cases e238
              replace hx238_0:=(HB.out.cell (bl_ w _ hx238_0)).trans hx238_0;replace hx238_1:=(HB.out.cell (bl_ w _ hx238_1)).trans hx238_1;replace hx238_2:=(HB.out.cell (bl_ w _ hx238_2)).trans hx238_2;replace hx238_3:=(HB.out.cell (bl_ w _ hx238_3)).trans hx238_3;replace p238:=eq_true p238;replace q238:=eq_true q238;refine start_ (n:=21) (S:=fun w'=>w'.cell? ⟨gb234,0,none⟩ = some (.int .i8 ((rd_T49 ((rd_T29 l0 0).f2) x5_2).f0)) ∧ w'.cell? ⟨gb234,1,none⟩ = some (.int .i8 ((rd_T49 ((rd_T29 l0 0).f2) x5_2).f1)) ∧ w'.cell? ⟨gb234,2,none⟩ = some (.int .i8 ((rd_T49 ((rd_T29 l0 0).f2) x5_2).f2)) ∧ w'.cell? ⟨gb234,3,none⟩ = some (.int .i8 ((rd_T49 ((rd_T29 l0 0).f2) x5_2).f3)) ∧ w'.cell? ad229 = some (.int .i8 ((rd_T29 l0 0).f0)) ∧ w'.cell? ⟨ad229.block,ad229.off + 1,none⟩ = some (.int .i8 ((rd_T29 l0 0).f1)) ∧ w'.cell? ⟨ad229.block,ad229.off + 2,none⟩ = some (.slice (some ad238) ((rd_T29 l0 0).f2).length c236_2) ∧ w'.cell? ad229 = some (.int .i8 ((rd_T29 l0 0).f0)) ∧ w'.cell? ⟨ad229.block,ad229.off + 1,none⟩ = some (.int .i8 ((rd_T29 l0 0).f1)) ∧ w'.cell? ⟨ad229.block,ad229.off + 2,none⟩ = some (.slice (some ad238) ((rd_T29 l0 0).f2).length c236_2) ∧ w'.cell? (ad238.add (((ji26)).toNat * 4)) = some (.int .i8 ((rd_T49 ((rd_T29 l0 0).f2) (ji26)).f0)) ∧ w'.cell? ⟨(ad238.add (((ji26)).toNat * 4)).block,(ad238.add (((ji26)).toNat * 4)).off + 1,none⟩ = some (.int .i8 ((rd_T49 ((rd_T29 l0 0).f2) (ji26)).f1)) ∧ w'.cell? ⟨(ad238.add (((ji26)).toNat * 4)).block,(ad238.add (((ji26)).toNat * 4)).off + 2,none⟩ = some (.int .i8 ((rd_T49 ((rd_T29 l0 0).f2) (ji26)).f2)) ∧ w'.cell? ⟨(ad238.add (((ji26)).toNat * 4)).block,(ad238.add (((ji26)).toNat * 4)).off + 3,none⟩ = some (.int .i8 ((rd_T49 ((rd_T29 l0 0).f2) (ji26)).f3))) (ds:=[]) (mB_ 21 0) (by kernel_rfl) rfl rfl ⟨(kC_ BK234.out 0).trans rfl,(kC_ BK234.out 1).trans rfl,(kC_ BK234.out 2).trans rfl,(kC_ BK234.out 3).trans rfl,((HB.out.cell (bl_ w _ hw236_0)).trans hw236_0),((HB.out.cell (bl_ w _ hw236_1)).trans hw236_1),((HB.out.cell (bl_ w _ hw236_2)).trans hw236_2),((HB.out.cell (bl_ w _ hw237_0)).trans hw237_0),((HB.out.cell (bl_ w _ hw237_1)).trans hw237_1),((HB.out.cell (bl_ w _ hw237_2)).trans hw237_2),((HB.out.cell (bl_ w _ hw238_0)).trans hw238_0),((HB.out.cell (bl_ w _ hw238_1)).trans hw238_1),((HB.out.cell (bl_ w _ hw238_2)).trans hw238_2),((HB.out.cell (bl_ w _ hw238_3)).trans hw238_3)⟩ (fun hHeld=>?_);refine with_tabW spec_l01Lay.tab8 spec_l01Lay.bits8 (fun HT_ HW_=>?_);generalize w30.drew = w31 at BK219 BK220 BK234 HB HR236_2 HR237_2 hx236_0 hx236_1 hx236_2 hx237_0 hx237_1 hx237_2 hx238_0 hx238_1 hx238_2 hx238_3 hHeld ⊢;refine pure_ (i:=0) (N:=some 51) (v:=?_) (a':=?_) (mB_ 21 1) rfl rfl (any_of HT_.out (by kernel_rfl)) (fun _ _ _ h=>h) (Or.inl ⟨by rfl,?_⟩) ?_ ?_;rotate_left
              ·
               intro w'
               go_simp
               with_reducible rfl
              rotate_left
              ·
               simp only [Act.put,z1_,z2_,z3_,i64_w,i32_w]
               rfl
              refine take_ (i:=1) (N:=some 52) (v:=?_) (a':=?_) (mB_ 21 3) rfl rfl (take_ofW HT_.out HW_.out (by kernel_rfl)) (fun _ _ _ h=>h) (Or.inl ⟨by rfl,?_⟩) hHeld ?_ ?_;rotate_left
              ·
               rintro w' ⟨s0,s1,s2,s3,s4,s5,s6,s7,s8,s9,s10,s11,s12,s13⟩
               go_simp
               with_reducible rfl
              rotate_left
              ·
               simp only [Act.put,z1_,z2_,z3_,i64_w,i32_w]
               rfl
              refine one_ (i:=2) (N:=some 53) (mB_ 21 7) rfl rfl (one_of HT_.out (by kernel_rfl)) (by decide) (fun K hK=>?_);refine goes_ Try.func67 (by kernel_rfl) rfl #[.pointer (some ad229),.agg #[.int .i8 ((rd_T49 ((rd_T29 l0 0).f2) x5_2).f0),.int .i8 ((rd_T49 ((rd_T29 l0 0).f2) x5_2).f1),.int .i8 ((rd_T49 ((rd_T29 l0 0).f2) x5_2).f2),.int .i8 ((rd_T49 ((rd_T29 l0 0).f2) x5_2).f3)]] (by rfl) rfl rfl (by (try simp only [List.map_toArray,List.map_cons,List.map_nil]);first|done|rfl|(simp only [List.length_drop,List.length_take];rfl)) ?_
              with_reducible refine (spec_l01Lies.calls _ c0 l0 ((rd_T49 ((rd_T29 l0 0).f2) x5_2).f0) ((rd_T49 ((rd_T29 l0 0).f2) x5_2).f1) ((rd_T49 ((rd_T29 l0 0).f2) x5_2).f2) ((rd_T49 ((rd_T29 l0 0).f2) x5_2).f3) true _ ?side1 ?side2 A23.out).mono ?_
              (case side1=>repeat (first|exact (cB_ HR0.out HB.out)|(with_reducible refine Kd.C_alloc ?_ _)|(with_reducible refine Kd.C_drewN ?_ _)|(with_reducible refine Kd.C_drew ?_)))
              (case side2=>exact HC0.out)
              rintro e w32 ⟨rfl,hb⟩;refine ⟨_,rfl,?_⟩;have n0_:=am_ (kB_ (g:=gb219) (o:=.cells (arrC .i64 x220000_2) 91 (0,0)) BK219.out hb);have n1_:=am_ (kB_ (g:=gb220) (o:=.cells (arrC .i64 x221000_2) 91 (0,0)) BK220.out hb);have n2_:=am_ (kB_ BK234.out hb);have n3_:=am_ (bT_ HB.out hb);clear BK219;clear BK220;clear BK234;clear HB;have BK219:=n0_;have BK220:=n1_;have BK234:=n2_;have HB:=n3_;clear n0_ n1_ n2_ n3_;(try clear hb);(try clear hb2);(try clear hk);(try clear hi);refine hK.out _ _ ⟨(kC_ BK234.out 0).trans rfl,(kC_ BK234.out 1).trans rfl,(kC_ BK234.out 2).trans rfl,(kC_ BK234.out 3).trans rfl,((HB.out.cell (bl_ w _ hw236_0)).trans hw236_0),((HB.out.cell (bl_ w _ hw236_1)).trans hw236_1),((HB.out.cell (bl_ w _ hw236_2)).trans hw236_2),((HB.out.cell (bl_ w _ hw237_0)).trans hw237_0),((HB.out.cell (bl_ w _ hw237_1)).trans hw237_1),((HB.out.cell (bl_ w _ hw237_2)).trans hw237_2),((HB.out.cell (bl_ w _ hw238_0)).trans hw238_0),((HB.out.cell (bl_ w _ hw238_1)).trans hw238_1),((HB.out.cell (bl_ w _ hw238_2)).trans hw238_2),((HB.out.cell (bl_ w _ hw238_3)).trans hw238_3)⟩ (fun hHeld=>?_);clear hK K;refine norm_ (a':=?_) ?_ ?_;rotate_left
              ·
               show Act.put _ (some 53) _ = _
               simp only [Act.put,z1_,z2_,z3_,i64_w,i32_w]
               rfl
              refine pure_ (i:=3) (N:=some 54) (v:=?_) (a':=?_) (mB_ 21 15) rfl rfl (any_of HT_.out (by kernel_rfl)) (fun _ _ _ h=>h) (Or.inl ⟨by rfl,?_⟩) ?_ ?_;rotate_left
              ·
               intro w'
               go_simp
               with_reducible rfl
              rotate_left
              ·
               simp only [Act.put,z1_,z2_,z3_,i64_w,i32_w]
               rfl
              refine pure_ (i:=4) (N:=some 55) (v:=?_) (a':=?_) (mB_ 21 31) rfl rfl (any_of HT_.out (by kernel_rfl)) (fun _ _ _ h=>h) (Or.inl ⟨by rfl,?_⟩) ?_ ?_;rotate_left
              ·
               intro w'
               go_simp
               with_reducible rfl
              rotate_left
              ·
               simp only [Act.put,z1_,z2_,z3_,i64_w,i32_w]
               rfl
              refine pure_ (i:=5) (N:=some 56) (v:=?_) (a':=?_) (mB_ 21 63) rfl rfl (any_of HT_.out (by kernel_rfl)) (fun _ _ _ h=>h) (Or.inl ⟨by rfl,?_⟩) ?_ ?_;rotate_left
              ·
               intro w'
               go_simp
               with_reducible rfl
              rotate_left
              ·
               simp only [Act.put,z1_,z2_,z3_,i64_w,i32_w]
               rfl
              refine pure_ (i:=6) (N:=some 57) (v:=?_) (a':=?_) (mB_ 21 127) rfl rfl (any_of HT_.out (by kernel_rfl)) (fun _ _ _ h=>h) (Or.inl ⟨by rfl,?_⟩) ?_ ?_;rotate_left
              ·
               intro w'
               go_simp
               with_reducible rfl
              rotate_left
              ·
               simp only [Act.put,z1_,z2_,z3_,i64_w,i32_w]
               rfl
              refine pure_ (i:=7) (N:=some 58) (v:=?_) (a':=?_) (mB_ 21 255) rfl rfl (any_of HT_.out (by kernel_rfl)) (fun _ _ _ h=>h) (Or.inl ⟨by rfl,?_⟩) ?_ ?_;rotate_left
              ·
               intro w'
               go_simp
               with_reducible rfl
              rotate_left
              ·
               simp only [Act.put,z1_,z2_,z3_,i64_w,i32_w]
               rfl
              refine pure_ (i:=8) (N:=some 59) (v:=?_) (a':=?_) (mB_ 21 511) rfl rfl (any_of HT_.out (by kernel_rfl)) (fun _ _ _ h=>h) (Or.inl ⟨by rfl,?_⟩) ?_ ?_;rotate_left
              ·
               intro w'
               go_simp
               with_reducible rfl
              rotate_left
              ·
               simp only [Act.put,z1_,z2_,z3_,i64_w,i32_w]
               rfl
              refine pure_ (i:=9) (N:=some 60) (v:=?_) (a':=?_) (mB_ 21 1023) rfl rfl (any_of HT_.out (by kernel_rfl)) (fun _ _ _ h=>h) (Or.inl ⟨by rfl,?_⟩) ?_ ?_;rotate_left
              ·
               intro w'
               go_simp
               with_reducible rfl
              rotate_left
              ·
               simp only [Act.put,z1_,z2_,z3_,i64_w,i32_w]
               rfl
              refine pure_ (i:=10) (N:=some 61) (v:=?_) (a':=?_) (mB_ 21 2047) rfl rfl (any_of HT_.out (by kernel_rfl)) (fun _ _ _ h=>h) (Or.inl ⟨by rfl,?_⟩) ?_ ?_;rotate_left
              ·
               intro w'
               go_simp
               with_reducible rfl
              rotate_left
              ·
               simp only [Act.put,z1_,z2_,z3_,i64_w,i32_w]
               rfl
              refine pure_ (i:=12) (N:=some 63) (v:=?_) (a':=?_) (mB_ 21 6143) rfl rfl (any_of HT_.out (by kernel_rfl)) (fun _ _ _ h=>h) (Or.inl ⟨by rfl,?_⟩) ?_ ?_;rotate_left
              ·
               intro w'
               go_simp
               with_reducible rfl
              rotate_left
              ·
               simp only [Act.put,z1_,z2_,z3_,i64_w,i32_w]
               rfl
              refine pure_ (i:=13) (N:=some 64) (v:=?_) (a':=?_) (mB_ 21 14335) rfl rfl (any_of HT_.out (by kernel_rfl)) (fun _ _ _ h=>h) (Or.inl ⟨by rfl,?_⟩) ?_ ?_;rotate_left
              ·
               intro w'
               go_simp
               with_reducible rfl
              rotate_left
              ·
               simp only [Act.put,z1_,z2_,z3_,i64_w,i32_w]
               rfl
              refine take_ (i:=11) (N:=some 62) (v:=?_) (a':=?_) (mB_ 21 16383) rfl rfl (take_ofW HT_.out HW_.out (by kernel_rfl)) (fun _ _ _ h=>h) (Or.inl ⟨by rfl,?_⟩) hHeld ?_ ?_;rotate_left
              ·
               rintro w' ⟨s0,s1,s2,s3,s4,s5,s6,s7,s8,s9,s10,s11,s12,s13⟩
               go_simp
               with_reducible rfl
              rotate_left
              ·
               simp only [Act.put,z1_,z2_,z3_,i64_w,i32_w]
               rfl
              refine pure_ (i:=14) (N:=some 65) (v:=?_) (a':=?_) (mB_ 21 32767) rfl rfl (any_of HT_.out (by kernel_rfl)) (fun _ _ _ h=>h) (Or.inl ⟨by rfl,?_⟩) ?_ ?_;rotate_left
              ·
               intro w'
               go_simp
               with_reducible rfl
              rotate_left
              ·
               simp only [Act.put,z1_,z2_,z3_,i64_w,i32_w]
               rfl
              refine take_ (i:=15) (N:=some 66) (v:=?_) (a':=?_) (mB_ 21 65535) rfl rfl (take_ofW HT_.out HW_.out (by kernel_rfl)) (fun _ _ _ h=>h) (Or.inl ⟨by rfl,?_⟩) hHeld ?_ ?_;rotate_left
              ·
               rintro w' ⟨s0,s1,s2,s3,s4,s5,s6,s7,s8,s9,s10,s11,s12,s13⟩
               go_simp
               with_reducible rfl
              rotate_left
              ·
               simp only [Act.put,z1_,z2_,z3_,i64_w,i32_w]
               rfl
              refine take_ (i:=16) (N:=some 67) (v:=?_) (a':=?_) (mB_ 21 131071) rfl rfl (take_ofW HT_.out HW_.out (by kernel_rfl)) (fun _ _ _ h=>h) (Or.inl ⟨by rfl,?_⟩) hHeld ?_ ?_;rotate_left
              ·
               rintro w' ⟨s0,s1,s2,s3,s4,s5,s6,s7,s8,s9,s10,s11,s12,s13⟩
               go_simp
               with_reducible rfl
              rotate_left
              ·
               simp only [Act.put,z1_,z2_,z3_,i64_w,i32_w]
               rfl
              refine one_ (i:=17) (N:=some 68) (mB_ 21 262143) rfl rfl (one_of HT_.out (by kernel_rfl)) (by decide) (fun K hK=>?_);refine goes_ Try.func86 (by kernel_rfl) rfl #[.agg #[.int .i8 ((rd_T49 ((rd_T29 l0 0).f2) (ji26)).f0),.int .i8 ((rd_T49 ((rd_T29 l0 0).f2) (ji26)).f1),.int .i8 ((rd_T49 ((rd_T29 l0 0).f2) (ji26)).f2),.int .i8 ((rd_T49 ((rd_T29 l0 0).f2) (ji26)).f3)],.agg #[.int .i8 ((rd_T49 ((rd_T29 l0 0).f2) x5_2).f0),.int .i8 ((rd_T49 ((rd_T29 l0 0).f2) x5_2).f1),.int .i8 ((rd_T49 ((rd_T29 l0 0).f2) x5_2).f2),.int .i8 ((rd_T49 ((rd_T29 l0 0).f2) x5_2).f3)]] (by rfl) rfl rfl (by (try simp only [List.map_toArray,List.map_cons,List.map_nil]);first|done|(simp only [hji26];rfl)|rfl|(simp only [List.length_drop,List.length_take];rfl)) ?_
              with_reducible refine (spec_l01Before.calls ((rd_T49 ((rd_T29 l0 0).f2) (ji26)).f0) ((rd_T49 ((rd_T29 l0 0).f2) (ji26)).f1) ((rd_T49 ((rd_T29 l0 0).f2) (ji26)).f2) ((rd_T49 ((rd_T29 l0 0).f2) (ji26)).f3) ((rd_T49 ((rd_T29 l0 0).f2) x5_2).f0) ((rd_T49 ((rd_T29 l0 0).f2) x5_2).f1) ((rd_T49 ((rd_T29 l0 0).f2) x5_2).f2) ((rd_T49 ((rd_T29 l0 0).f2) x5_2).f3) t239 _ A29.out).mono ?_
              rintro e w33 ⟨rfl,hb⟩;refine ⟨_,rfl,?_⟩;have n0_:=am_ (kB_ (g:=gb219) (o:=.cells (arrC .i64 x220000_2) 91 (0,0)) BK219.out hb);have n1_:=am_ (kB_ (g:=gb220) (o:=.cells (arrC .i64 x221000_2) 91 (0,0)) BK220.out hb);have n2_:=am_ (kB_ BK234.out hb);have n3_:=am_ (bT_ HB.out hb);clear BK219;clear BK220;clear BK234;clear HB;have BK219:=n0_;have BK220:=n1_;have BK234:=n2_;have HB:=n3_;clear n0_ n1_ n2_ n3_;(try clear hb);(try clear hb2);(try clear hk);(try clear hi);refine hK.out _ _ ⟨(kC_ BK234.out 0).trans rfl,(kC_ BK234.out 1).trans rfl,(kC_ BK234.out 2).trans rfl,(kC_ BK234.out 3).trans rfl,((HB.out.cell (bl_ w _ hw236_0)).trans hw236_0),((HB.out.cell (bl_ w _ hw236_1)).trans hw236_1),((HB.out.cell (bl_ w _ hw236_2)).trans hw236_2),((HB.out.cell (bl_ w _ hw237_0)).trans hw237_0),((HB.out.cell (bl_ w _ hw237_1)).trans hw237_1),((HB.out.cell (bl_ w _ hw237_2)).trans hw237_2),((HB.out.cell (bl_ w _ hw238_0)).trans hw238_0),((HB.out.cell (bl_ w _ hw238_1)).trans hw238_1),((HB.out.cell (bl_ w _ hw238_2)).trans hw238_2),((HB.out.cell (bl_ w _ hw238_3)).trans hw238_3)⟩ (fun hHeld=>?_);clear hK K;refine norm_ (a':=?_) ?_ ?_;rotate_left
              ·
               show Act.put _ (some 68) _ = _
               simp only [Act.put,z1_,z2_,z3_,i64_w,i32_w]
               rfl
              refine pure_ (i:=18) (N:=some 69) (v:=?_) (a':=?_) (mB_ 21 524287) rfl rfl (any_of HT_.out (by kernel_rfl)) (fun _ _ _ h=>h) (Or.inl ⟨by rfl,?_⟩) ?_ ?_;rotate_left
              ·
               intro w'
               go_simp
               with_reducible rfl
              rotate_left
              ·
               simp only [Act.put,z1_,z2_,z3_,i64_w,i32_w]
               rfl
              refine pure_ (i:=19) (N:=some 70) (v:=?_) (a':=?_) (mB_ 21 1048575) rfl rfl (any_of HT_.out (by kernel_rfl)) (fun _ _ _ h=>h) (Or.inl ⟨by rfl,?_⟩) ?_ ?_;rotate_left
              ·
               intro w'
               go_simp
               with_reducible rfl
              rotate_left
              ·
               simp only [Act.put,z1_,z2_,z3_,i64_w,i32_w]
               rfl
              refine pure_ (i:=20) (N:=some 71) (v:=?_) (a':=?_) (mB_ 21 2097151) rfl rfl (any_of HT_.out (by kernel_rfl)) (fun _ _ _ h=>h) (Or.inl ⟨by rfl,?_⟩) ?_ ?_;rotate_left
              ·
               intro w'
               go_simp
               with_reducible rfl
              rotate_left
              ·
               simp only [Act.put,z1_,z2_,z3_,i64_w,i32_w]
               rfl
              refine done_ (done_of HT_.out (by kernel_rfl)) ?_
              try go_wp2
              go_meet
              case rel=>exact ⟨_,(!t239),(by first|rfl|(simp;done)|(simp [*];done)),H',⟨by have:=HJ1.out;have:=HK2.out;first|omega|exact Nat.le_refl _⟩,⟨by (with_reducible repeat (first|apply kN_|apply kD_|apply kA_));exact BK219.out⟩,⟨by (with_reducible repeat (first|apply kN_|apply kD_|apply kA_));exact BK220.out⟩,⟨by (with_reducible repeat (first|apply kN_|apply kD_|apply kA_));exact BK234.out⟩,⟨by repeat (first|(with_reducible first|exact HB.out|apply bA_|apply bN_|apply bD_|refine bS_ ?_ GE219.out|refine bS_ ?_ GE220.out|refine bS_ ?_ GE234.out)|exact HB.out)⟩⟩
             ·
              rw [if_neg c28] at H;exact absurd H (by simp)
            ·
             rw [if_neg c27] at H;exact absurd H (by simp)
           ·
            rw [if_neg c25] at H;have c25b0 : decide (0 < x5_2) = false:=decide_eq_false c25;clear c25
            (first|rw [c25b0]|(simp only [i64_w,i32_w];rw [c25b0])|skip)
            have H':=am_ H;clear H
            try go_wp2
            have n0_ : Aside0 (((((w19.setCell ⟨gb234,0,none⟩ (.int .i8 ((rd_T49 ((rd_T29 l0 0).f2) x5_2).f0))).setCell ⟨gb234,1,none⟩ (.int .i8 ((rd_T49 ((rd_T29 l0 0).f2) x5_2).f1))).setCell ⟨gb234,2,none⟩ (.int .i8 ((rd_T49 ((rd_T29 l0 0).f2) x5_2).f2))).setCell ⟨gb234,3,none⟩ (.int .i8 ((rd_T49 ((rd_T29 l0 0).f2) x5_2).f3))).heap[gb219]? = some (.cells (arrC .i64 x220000_2) 91 (0,0))):=⟨by (with_reducible repeat (first|apply kN_|apply kD_|apply kA_));refine kX_ ?_ NB219_234.out _;(with_reducible repeat (first|apply kN_|apply kD_|apply kA_));refine kX_ ?_ NB219_234.out _;(with_reducible repeat (first|apply kN_|apply kD_|apply kA_));refine kX_ ?_ NB219_234.out _;(with_reducible repeat (first|apply kN_|apply kD_|apply kA_));refine kX_ ?_ NB219_234.out _;(with_reducible repeat (first|apply kN_|apply kD_|apply kA_));exact BK219.out⟩
            have n1_ : Aside0 (((((w19.setCell ⟨gb234,0,none⟩ (.int .i8 ((rd_T49 ((rd_T29 l0 0).f2) x5_2).f0))).setCell ⟨gb234,1,none⟩ (.int .i8 ((rd_T49 ((rd_T29 l0 0).f2) x5_2).f1))).setCell ⟨gb234,2,none⟩ (.int .i8 ((rd_T49 ((rd_T29 l0 0).f2) x5_2).f2))).setCell ⟨gb234,3,none⟩ (.int .i8 ((rd_T49 ((rd_T29 l0 0).f2) x5_2).f3))).heap[gb220]? = some (.cells (arrC .i64 x221000_2) 91 (0,0))):=⟨by (with_reducible repeat (first|apply kN_|apply kD_|apply kA_));refine kX_ ?_ NB220_234.out _;(with_reducible repeat (first|apply kN_|apply kD_|apply kA_));refine kX_ ?_ NB220_234.out _;(with_reducible repeat (first|apply kN_|apply kD_|apply kA_));refine kX_ ?_ NB220_234.out _;(with_reducible repeat (first|apply kN_|apply kD_|apply kA_));refine kX_ ?_ NB220_234.out _;(with_reducible repeat (first|apply kN_|apply kD_|apply kA_));exact BK220.out⟩
            have n2_ : Aside0 (((((w19.setCell ⟨gb234,0,none⟩ (.int .i8 ((rd_T49 ((rd_T29 l0 0).f2) x5_2).f0))).setCell ⟨gb234,1,none⟩ (.int .i8 ((rd_T49 ((rd_T29 l0 0).f2) x5_2).f1))).setCell ⟨gb234,2,none⟩ (.int .i8 ((rd_T49 ((rd_T29 l0 0).f2) x5_2).f2))).setCell ⟨gb234,3,none⟩ (.int .i8 ((rd_T49 ((rd_T29 l0 0).f2) x5_2).f3))).heap[gb234]? = some (.cells #[.int .i8 ((rd_T49 ((rd_T29 l0 0).f2) x5_2).f0),.int .i8 ((rd_T49 ((rd_T29 l0 0).f2) x5_2).f1),.int .i8 ((rd_T49 ((rd_T29 l0 0).f2) x5_2).f2),.int .i8 ((rd_T49 ((rd_T29 l0 0).f2) x5_2).f3)] 49 (0,0))):=⟨by (with_reducible repeat (first|apply kN_|apply kD_|apply kA_));refine blk_put (cs:=#[.int .i8 ((rd_T49 ((rd_T29 l0 0).f2) x5_2).f0),.int .i8 ((rd_T49 ((rd_T29 l0 0).f2) x5_2).f1),.int .i8 ((rd_T49 ((rd_T29 l0 0).f2) x5_2).f2),.int .i8 0]) ?_ 3 _ rfl;(with_reducible repeat (first|apply kN_|apply kD_|apply kA_));refine blk_put (cs:=#[.int .i8 ((rd_T49 ((rd_T29 l0 0).f2) x5_2).f0),.int .i8 ((rd_T49 ((rd_T29 l0 0).f2) x5_2).f1),.int .i8 0,.int .i8 0]) ?_ 2 _ rfl;(with_reducible repeat (first|apply kN_|apply kD_|apply kA_));refine blk_put (cs:=#[.int .i8 ((rd_T49 ((rd_T29 l0 0).f2) x5_2).f0),.int .i8 0,.int .i8 0,.int .i8 0]) ?_ 1 _ rfl;(with_reducible repeat (first|apply kN_|apply kD_|apply kA_));refine blk_put (cs:=#[.int .i8 0,.int .i8 0,.int .i8 0,.int .i8 0]) ?_ 0 _ rfl;(with_reducible repeat (first|apply kN_|apply kD_|apply kA_));exact BK234.out⟩
            have n3_ : Aside0 (Below w.heap.size w ((((w19.setCell ⟨gb234,0,none⟩ (.int .i8 ((rd_T49 ((rd_T29 l0 0).f2) x5_2).f0))).setCell ⟨gb234,1,none⟩ (.int .i8 ((rd_T49 ((rd_T29 l0 0).f2) x5_2).f1))).setCell ⟨gb234,2,none⟩ (.int .i8 ((rd_T49 ((rd_T29 l0 0).f2) x5_2).f2))).setCell ⟨gb234,3,none⟩ (.int .i8 ((rd_T49 ((rd_T29 l0 0).f2) x5_2).f3)))):=⟨by repeat (first|(with_reducible first|exact HB.out|apply bA_|apply bN_|apply bD_|refine bS_ ?_ GE219.out|refine bS_ ?_ GE220.out|refine bS_ ?_ GE234.out)|exact HB.out)⟩
            (try clear BK219);(try clear BK220);(try clear BK234);(try clear HB);generalize ((((w19.setCell ⟨gb234,0,none⟩ (.int .i8 ((rd_T49 ((rd_T29 l0 0).f2) x5_2).f0))).setCell ⟨gb234,1,none⟩ (.int .i8 ((rd_T49 ((rd_T29 l0 0).f2) x5_2).f1))).setCell ⟨gb234,2,none⟩ (.int .i8 ((rd_T49 ((rd_T29 l0 0).f2) x5_2).f2))).setCell ⟨gb234,3,none⟩ (.int .i8 ((rd_T49 ((rd_T29 l0 0).f2) x5_2).f3))) = w34 at n0_ n1_ n2_ n3_ ⊢;have BK219:=n0_;have BK220:=n1_;have BK234:=n2_;have HB:=n3_;clear n0_ n1_ n2_ n3_;have n0_:=am_ (kD_ BK219.out);have n1_:=am_ (kD_ BK220.out);have n2_:=am_ (kD_ BK234.out);have n3_:=am_ (bD_ HB.out);clear BK219;clear BK220;clear BK234;clear HB;have BK219:=n0_;have BK220:=n1_;have BK234:=n2_;have HB:=n3_;clear n0_ n1_ n2_ n3_;refine start_ (n:=21) (S:=fun w'=>w'.cell? ⟨gb234,0,none⟩ = some (.int .i8 ((rd_T49 ((rd_T29 l0 0).f2) x5_2).f0)) ∧ w'.cell? ⟨gb234,1,none⟩ = some (.int .i8 ((rd_T49 ((rd_T29 l0 0).f2) x5_2).f1)) ∧ w'.cell? ⟨gb234,2,none⟩ = some (.int .i8 ((rd_T49 ((rd_T29 l0 0).f2) x5_2).f2)) ∧ w'.cell? ⟨gb234,3,none⟩ = some (.int .i8 ((rd_T49 ((rd_T29 l0 0).f2) x5_2).f3))) (ds:=[]) (mB_ 21 0) (by kernel_rfl) rfl rfl ⟨(kC_ BK234.out 0).trans rfl,(kC_ BK234.out 1).trans rfl,(kC_ BK234.out 2).trans rfl,(kC_ BK234.out 3).trans rfl⟩ (fun hHeld=>?_);refine with_tabW spec_l01Lay.tab8 spec_l01Lay.bits8 (fun HT_ HW_=>?_);generalize w34.drew = w35 at BK219 BK220 BK234 HB hHeld ⊢;refine pure_ (i:=0) (N:=some 51) (v:=?_) (a':=?_) (mB_ 21 1) rfl rfl (any_of HT_.out (by kernel_rfl)) (fun _ _ _ h=>h) (Or.inl ⟨by rfl,?_⟩) ?_ ?_;rotate_left
            ·
             intro w'
             go_simp
             with_reducible rfl
            rotate_left
            ·
             simp only [Act.put,z1_,z2_,z3_,i64_w,i32_w]
             rfl
            refine take_ (i:=1) (N:=some 52) (v:=?_) (a':=?_) (mB_ 21 3) rfl rfl (take_ofW HT_.out HW_.out (by kernel_rfl)) (fun _ _ _ h=>h) (Or.inl ⟨by rfl,?_⟩) hHeld ?_ ?_;rotate_left
            ·
             rintro w' ⟨s0,s1,s2,s3⟩
             go_simp
             with_reducible rfl
            rotate_left
            ·
             simp only [Act.put,z1_,z2_,z3_,i64_w,i32_w]
             rfl
            refine one_ (i:=2) (N:=some 53) (mB_ 21 7) rfl rfl (one_of HT_.out (by kernel_rfl)) (by decide) (fun K hK=>?_);refine goes_ Try.func67 (by kernel_rfl) rfl #[.pointer (some ad229),.agg #[.int .i8 ((rd_T49 ((rd_T29 l0 0).f2) x5_2).f0),.int .i8 ((rd_T49 ((rd_T29 l0 0).f2) x5_2).f1),.int .i8 ((rd_T49 ((rd_T29 l0 0).f2) x5_2).f2),.int .i8 ((rd_T49 ((rd_T29 l0 0).f2) x5_2).f3)]] (by rfl) rfl rfl (by (try simp only [List.map_toArray,List.map_cons,List.map_nil]);first|done|rfl|(simp only [List.length_drop,List.length_take];rfl)) ?_
            with_reducible refine (spec_l01Lies.calls _ c0 l0 ((rd_T49 ((rd_T29 l0 0).f2) x5_2).f0) ((rd_T49 ((rd_T29 l0 0).f2) x5_2).f1) ((rd_T49 ((rd_T29 l0 0).f2) x5_2).f2) ((rd_T49 ((rd_T29 l0 0).f2) x5_2).f3) true _ ?side1 ?side2 A23.out).mono ?_
            (case side1=>repeat (first|exact (cB_ HR0.out HB.out)|(with_reducible refine Kd.C_alloc ?_ _)|(with_reducible refine Kd.C_drewN ?_ _)|(with_reducible refine Kd.C_drew ?_)))
            (case side2=>exact HC0.out)
            rintro e w36 ⟨rfl,hb⟩;refine ⟨_,rfl,?_⟩;have n0_:=am_ (kB_ (g:=gb219) (o:=.cells (arrC .i64 x220000_2) 91 (0,0)) BK219.out hb);have n1_:=am_ (kB_ (g:=gb220) (o:=.cells (arrC .i64 x221000_2) 91 (0,0)) BK220.out hb);have n2_:=am_ (kB_ BK234.out hb);have n3_:=am_ (bT_ HB.out hb);clear BK219;clear BK220;clear BK234;clear HB;have BK219:=n0_;have BK220:=n1_;have BK234:=n2_;have HB:=n3_;clear n0_ n1_ n2_ n3_;(try clear hb);(try clear hb2);(try clear hk);(try clear hi);refine hK.out _ _ ⟨(kC_ BK234.out 0).trans rfl,(kC_ BK234.out 1).trans rfl,(kC_ BK234.out 2).trans rfl,(kC_ BK234.out 3).trans rfl⟩ (fun hHeld=>?_);clear hK K;refine norm_ (a':=?_) ?_ ?_;rotate_left
            ·
             show Act.put _ (some 53) _ = _
             simp only [Act.put,z1_,z2_,z3_,i64_w,i32_w]
             rfl
            refine pure_ (i:=3) (N:=some 54) (v:=?_) (a':=?_) (mB_ 21 15) rfl rfl (any_of HT_.out (by kernel_rfl)) (fun _ _ _ h=>h) (Or.inl ⟨by rfl,?_⟩) ?_ ?_;rotate_left
            ·
             intro w'
             go_simp
             with_reducible rfl
            rotate_left
            ·
             simp only [Act.put,z1_,z2_,z3_,i64_w,i32_w]
             rfl
            refine pure_ (i:=4) (N:=some 55) (v:=?_) (a':=?_) (mB_ 21 31) rfl rfl (any_of HT_.out (by kernel_rfl)) (fun _ _ _ h=>h) (Or.inl ⟨by rfl,?_⟩) ?_ ?_;rotate_left
            ·
             intro w'
             go_simp
             with_reducible rfl
            rotate_left
            ·
             simp only [Act.put,z1_,z2_,z3_,i64_w,i32_w]
             rfl
            refine pure_ (i:=5) (N:=some 56) (v:=?_) (a':=?_) (mB_ 21 63) rfl rfl (any_of HT_.out (by kernel_rfl)) (fun _ _ _ h=>h) (Or.inl ⟨by rfl,?_⟩) ?_ ?_;rotate_left
            ·
             intro w'
             go_simp
             with_reducible rfl
            rotate_left
            ·
             simp only [Act.put,z1_,z2_,z3_,i64_w,i32_w]
             rfl
            refine pure_ (i:=6) (N:=some 57) (v:=?_) (a':=?_) (mB_ 21 127) rfl rfl (any_of HT_.out (by kernel_rfl)) (fun _ _ _ h=>h) (Or.inl ⟨by rfl,?_⟩) ?_ ?_;rotate_left
            ·
             intro w'
             go_simp
             with_reducible rfl
            rotate_left
            ·
             simp only [Act.put,z1_,z2_,z3_,i64_w,i32_w]
             rfl
            refine pure_ (i:=7) (N:=some 58) (v:=?_) (a':=?_) (mB_ 21 255) rfl rfl (any_of HT_.out (by kernel_rfl)) (fun _ _ _ h=>h) (Or.inl ⟨by rfl,?_⟩) ?_ ?_;rotate_left
            ·
             intro w'
             go_simp
             with_reducible rfl
            rotate_left
            ·
             simp only [Act.put,z1_,z2_,z3_,i64_w,i32_w]
             rfl
            refine pure_ (i:=8) (N:=some 59) (v:=undef) (a':=?_) (mB_ 21 511) rfl rfl (any_of HT_.out (by kernel_rfl)) (fun _ _ _ h=>h) (Or.inr ⟨by rfl,rfl⟩) ?_ ?_;rotate_left
            ·
             simp only [Act.put,z1_,z2_,z3_,i64_w,i32_w]
             rfl
            refine pure_ (i:=9) (N:=some 60) (v:=undef) (a':=?_) (mB_ 21 1023) rfl rfl (any_of HT_.out (by kernel_rfl)) (fun _ _ _ h=>h) (Or.inr ⟨by rfl,rfl⟩) ?_ ?_;rotate_left
            ·
             simp only [Act.put,z1_,z2_,z3_,i64_w,i32_w]
             rfl
            refine pure_ (i:=10) (N:=some 61) (v:=undef) (a':=?_) (mB_ 21 2047) rfl rfl (any_of HT_.out (by kernel_rfl)) (fun _ _ _ h=>h) (Or.inr ⟨by rfl,rfl⟩) ?_ ?_;rotate_left
            ·
             simp only [Act.put,z1_,z2_,z3_,i64_w,i32_w]
             rfl
            refine pure_ (i:=11) (N:=some 62) (v:=undef) (a':=?_) (mB_ 21 4095) rfl rfl (any_of HT_.out (by kernel_rfl)) (fun _ _ _ h=>h) (Or.inr ⟨by rfl,rfl⟩) ?_ ?_;rotate_left
            ·
             simp only [Act.put,z1_,z2_,z3_,i64_w,i32_w]
             rfl
            refine pure_ (i:=12) (N:=some 63) (v:=undef) (a':=?_) (mB_ 21 8191) rfl rfl (any_of HT_.out (by kernel_rfl)) (fun _ _ _ h=>h) (Or.inr ⟨by rfl,rfl⟩) ?_ ?_;rotate_left
            ·
             simp only [Act.put,z1_,z2_,z3_,i64_w,i32_w]
             rfl
            refine pure_ (i:=13) (N:=some 64) (v:=undef) (a':=?_) (mB_ 21 16383) rfl rfl (any_of HT_.out (by kernel_rfl)) (fun _ _ _ h=>h) (Or.inr ⟨by rfl,rfl⟩) ?_ ?_;rotate_left
            ·
             simp only [Act.put,z1_,z2_,z3_,i64_w,i32_w]
             rfl
            refine pure_ (i:=14) (N:=some 65) (v:=undef) (a':=?_) (mB_ 21 32767) rfl rfl (any_of HT_.out (by kernel_rfl)) (fun _ _ _ h=>h) (Or.inr ⟨by rfl,rfl⟩) ?_ ?_;rotate_left
            ·
             simp only [Act.put,z1_,z2_,z3_,i64_w,i32_w]
             rfl
            refine pure_ (i:=15) (N:=some 66) (v:=undef) (a':=?_) (mB_ 21 65535) rfl rfl (any_of HT_.out (by kernel_rfl)) (fun _ _ _ h=>h) (Or.inr ⟨by rfl,rfl⟩) ?_ ?_;rotate_left
            ·
             simp only [Act.put,z1_,z2_,z3_,i64_w,i32_w]
             rfl
            refine pure_ (i:=16) (N:=some 67) (v:=undef) (a':=?_) (mB_ 21 131071) rfl rfl (any_of HT_.out (by kernel_rfl)) (fun _ _ _ h=>h) (Or.inr ⟨by rfl,rfl⟩) ?_ ?_;rotate_left
            ·
             simp only [Act.put,z1_,z2_,z3_,i64_w,i32_w]
             rfl
            refine pure_ (i:=17) (N:=some 68) (v:=undef) (a':=?_) (mB_ 21 262143) rfl rfl (any_of HT_.out (by kernel_rfl)) (fun _ _ _ h=>h) (Or.inr ⟨by rfl,rfl⟩) ?_ ?_;rotate_left
            ·
             simp only [Act.put,z1_,z2_,z3_,i64_w,i32_w]
             rfl
            refine pure_ (i:=18) (N:=some 69) (v:=undef) (a':=?_) (mB_ 21 524287) rfl rfl (any_of HT_.out (by kernel_rfl)) (fun _ _ _ h=>h) (Or.inr ⟨by rfl,rfl⟩) ?_ ?_;rotate_left
            ·
             simp only [Act.put,z1_,z2_,z3_,i64_w,i32_w]
             rfl
            refine pure_ (i:=19) (N:=some 70) (v:=?_) (a':=?_) (mB_ 21 1048575) rfl rfl (any_of HT_.out (by kernel_rfl)) (fun _ _ _ h=>h) (Or.inl ⟨by rfl,?_⟩) ?_ ?_;rotate_left
            ·
             intro w'
             go_simp
             with_reducible rfl
            rotate_left
            ·
             simp only [Act.put,z1_,z2_,z3_,i64_w,i32_w]
             rfl
            refine pure_ (i:=20) (N:=some 71) (v:=?_) (a':=?_) (mB_ 21 2097151) rfl rfl (any_of HT_.out (by kernel_rfl)) (fun _ _ _ h=>h) (Or.inl ⟨by rfl,?_⟩) ?_ ?_;rotate_left
            ·
             intro w'
             go_simp
             with_reducible rfl
            rotate_left
            ·
             simp only [Act.put,z1_,z2_,z3_,i64_w,i32_w]
             rfl
            refine done_ (done_of HT_.out (by kernel_rfl)) ?_
            try go_wp2
            go_meet
            case rel=>exact ⟨_,(false),(by first|rfl|(simp;done)|(simp [*];done)),H',⟨by have:=HJ1.out;have:=HK2.out;first|omega|exact Nat.le_refl _⟩,⟨by (with_reducible repeat (first|apply kN_|apply kD_|apply kA_));exact BK219.out⟩,⟨by (with_reducible repeat (first|apply kN_|apply kD_|apply kA_));exact BK220.out⟩,⟨by (with_reducible repeat (first|apply kN_|apply kD_|apply kA_));exact BK234.out⟩,⟨by repeat (first|(with_reducible first|exact HB.out|apply bA_|apply bN_|apply bD_|refine bS_ ?_ GE219.out|refine bS_ ?_ GE220.out|refine bS_ ?_ GE234.out)|exact HB.out)⟩⟩
          ·
           replace c24:=Bool.eq_false_iff.mpr c24;subst c24;have H1 : (spec_l01Lay.j2 k2 l0 x5_2 true x220000_2 x221000_2 ((rd_T49 ((rd_T29 l0 0).f2) x5_2).f0) ((rd_T49 ((rd_T29 l0 0).f2) x5_2).f1) ((rd_T49 ((rd_T29 l0 0).f2) x5_2).f2) ((rd_T49 ((rd_T29 l0 0).f2) x5_2).f3)) = some (r1,r2):=by rw [if_neg (show ¬ (false = true) by decide)] at H;exact H
           clear H;have H:=H1;clear H1;have H':=am_ H;clear H
           try go_wp2
           have n0_ : Aside0 (((((w19.setCell ⟨gb234,0,none⟩ (.int .i8 ((rd_T49 ((rd_T29 l0 0).f2) x5_2).f0))).setCell ⟨gb234,1,none⟩ (.int .i8 ((rd_T49 ((rd_T29 l0 0).f2) x5_2).f1))).setCell ⟨gb234,2,none⟩ (.int .i8 ((rd_T49 ((rd_T29 l0 0).f2) x5_2).f2))).setCell ⟨gb234,3,none⟩ (.int .i8 ((rd_T49 ((rd_T29 l0 0).f2) x5_2).f3))).heap[gb219]? = some (.cells (arrC .i64 x220000_2) 91 (0,0))):=⟨by (with_reducible repeat (first|apply kN_|apply kD_|apply kA_));refine kX_ ?_ NB219_234.out _;(with_reducible repeat (first|apply kN_|apply kD_|apply kA_));refine kX_ ?_ NB219_234.out _;(with_reducible repeat (first|apply kN_|apply kD_|apply kA_));refine kX_ ?_ NB219_234.out _;(with_reducible repeat (first|apply kN_|apply kD_|apply kA_));refine kX_ ?_ NB219_234.out _;(with_reducible repeat (first|apply kN_|apply kD_|apply kA_));exact BK219.out⟩
           have n1_ : Aside0 (((((w19.setCell ⟨gb234,0,none⟩ (.int .i8 ((rd_T49 ((rd_T29 l0 0).f2) x5_2).f0))).setCell ⟨gb234,1,none⟩ (.int .i8 ((rd_T49 ((rd_T29 l0 0).f2) x5_2).f1))).setCell ⟨gb234,2,none⟩ (.int .i8 ((rd_T49 ((rd_T29 l0 0).f2) x5_2).f2))).setCell ⟨gb234,3,none⟩ (.int .i8 ((rd_T49 ((rd_T29 l0 0).f2) x5_2).f3))).heap[gb220]? = some (.cells (arrC .i64 x221000_2) 91 (0,0))):=⟨by (with_reducible repeat (first|apply kN_|apply kD_|apply kA_));refine kX_ ?_ NB220_234.out _;(with_reducible repeat (first|apply kN_|apply kD_|apply kA_));refine kX_ ?_ NB220_234.out _;(with_reducible repeat (first|apply kN_|apply kD_|apply kA_));refine kX_ ?_ NB220_234.out _;(with_reducible repeat (first|apply kN_|apply kD_|apply kA_));refine kX_ ?_ NB220_234.out _;(with_reducible repeat (first|apply kN_|apply kD_|apply kA_));exact BK220.out⟩
           have n2_ : Aside0 (((((w19.setCell ⟨gb234,0,none⟩ (.int .i8 ((rd_T49 ((rd_T29 l0 0).f2) x5_2).f0))).setCell ⟨gb234,1,none⟩ (.int .i8 ((rd_T49 ((rd_T29 l0 0).f2) x5_2).f1))).setCell ⟨gb234,2,none⟩ (.int .i8 ((rd_T49 ((rd_T29 l0 0).f2) x5_2).f2))).setCell ⟨gb234,3,none⟩ (.int .i8 ((rd_T49 ((rd_T29 l0 0).f2) x5_2).f3))).heap[gb234]? = some (.cells #[.int .i8 ((rd_T49 ((rd_T29 l0 0).f2) x5_2).f0),.int .i8 ((rd_T49 ((rd_T29 l0 0).f2) x5_2).f1),.int .i8 ((rd_T49 ((rd_T29 l0 0).f2) x5_2).f2),.int .i8 ((rd_T49 ((rd_T29 l0 0).f2) x5_2).f3)] 49 (0,0))):=⟨by (with_reducible repeat (first|apply kN_|apply kD_|apply kA_));refine blk_put (cs:=#[.int .i8 ((rd_T49 ((rd_T29 l0 0).f2) x5_2).f0),.int .i8 ((rd_T49 ((rd_T29 l0 0).f2) x5_2).f1),.int .i8 ((rd_T49 ((rd_T29 l0 0).f2) x5_2).f2),.int .i8 0]) ?_ 3 _ rfl;(with_reducible repeat (first|apply kN_|apply kD_|apply kA_));refine blk_put (cs:=#[.int .i8 ((rd_T49 ((rd_T29 l0 0).f2) x5_2).f0),.int .i8 ((rd_T49 ((rd_T29 l0 0).f2) x5_2).f1),.int .i8 0,.int .i8 0]) ?_ 2 _ rfl;(with_reducible repeat (first|apply kN_|apply kD_|apply kA_));refine blk_put (cs:=#[.int .i8 ((rd_T49 ((rd_T29 l0 0).f2) x5_2).f0),.int .i8 0,.int .i8 0,.int .i8 0]) ?_ 1 _ rfl;(with_reducible repeat (first|apply kN_|apply kD_|apply kA_));refine blk_put (cs:=#[.int .i8 0,.int .i8 0,.int .i8 0,.int .i8 0]) ?_ 0 _ rfl;(with_reducible repeat (first|apply kN_|apply kD_|apply kA_));exact BK234.out⟩
           have n3_ : Aside0 (Below w.heap.size w ((((w19.setCell ⟨gb234,0,none⟩ (.int .i8 ((rd_T49 ((rd_T29 l0 0).f2) x5_2).f0))).setCell ⟨gb234,1,none⟩ (.int .i8 ((rd_T49 ((rd_T29 l0 0).f2) x5_2).f1))).setCell ⟨gb234,2,none⟩ (.int .i8 ((rd_T49 ((rd_T29 l0 0).f2) x5_2).f2))).setCell ⟨gb234,3,none⟩ (.int .i8 ((rd_T49 ((rd_T29 l0 0).f2) x5_2).f3)))):=⟨by repeat (first|(with_reducible first|exact HB.out|apply bA_|apply bN_|apply bD_|refine bS_ ?_ GE219.out|refine bS_ ?_ GE220.out|refine bS_ ?_ GE234.out)|exact HB.out)⟩
           (try clear BK219);(try clear BK220);(try clear BK234);(try clear HB);generalize ((((w19.setCell ⟨gb234,0,none⟩ (.int .i8 ((rd_T49 ((rd_T29 l0 0).f2) x5_2).f0))).setCell ⟨gb234,1,none⟩ (.int .i8 ((rd_T49 ((rd_T29 l0 0).f2) x5_2).f1))).setCell ⟨gb234,2,none⟩ (.int .i8 ((rd_T49 ((rd_T29 l0 0).f2) x5_2).f2))).setCell ⟨gb234,3,none⟩ (.int .i8 ((rd_T49 ((rd_T29 l0 0).f2) x5_2).f3))) = w37 at n0_ n1_ n2_ n3_ ⊢;have BK219:=n0_;have BK220:=n1_;have BK234:=n2_;have HB:=n3_;clear n0_ n1_ n2_ n3_;have n0_:=am_ (kD_ BK219.out);have n1_:=am_ (kD_ BK220.out);have n2_:=am_ (kD_ BK234.out);have n3_:=am_ (bD_ HB.out);clear BK219;clear BK220;clear BK234;clear HB;have BK219:=n0_;have BK220:=n1_;have BK234:=n2_;have HB:=n3_;clear n0_ n1_ n2_ n3_;refine start_ (n:=21) (S:=fun w'=>w'.cell? ⟨gb234,0,none⟩ = some (.int .i8 ((rd_T49 ((rd_T29 l0 0).f2) x5_2).f0)) ∧ w'.cell? ⟨gb234,1,none⟩ = some (.int .i8 ((rd_T49 ((rd_T29 l0 0).f2) x5_2).f1)) ∧ w'.cell? ⟨gb234,2,none⟩ = some (.int .i8 ((rd_T49 ((rd_T29 l0 0).f2) x5_2).f2)) ∧ w'.cell? ⟨gb234,3,none⟩ = some (.int .i8 ((rd_T49 ((rd_T29 l0 0).f2) x5_2).f3))) (ds:=[]) (mB_ 21 0) (by kernel_rfl) rfl rfl ⟨(kC_ BK234.out 0).trans rfl,(kC_ BK234.out 1).trans rfl,(kC_ BK234.out 2).trans rfl,(kC_ BK234.out 3).trans rfl⟩ (fun hHeld=>?_);refine with_tabW spec_l01Lay.tab8 spec_l01Lay.bits8 (fun HT_ HW_=>?_);generalize w37.drew = w38 at BK219 BK220 BK234 HB hHeld ⊢;refine pure_ (i:=0) (N:=some 51) (v:=?_) (a':=?_) (mB_ 21 1) rfl rfl (any_of HT_.out (by kernel_rfl)) (fun _ _ _ h=>h) (Or.inl ⟨by rfl,?_⟩) ?_ ?_;rotate_left
           ·
            intro w'
            go_simp
            with_reducible rfl
           rotate_left
           ·
            simp only [Act.put,z1_,z2_,z3_,i64_w,i32_w]
            rfl
           refine take_ (i:=1) (N:=some 52) (v:=?_) (a':=?_) (mB_ 21 3) rfl rfl (take_ofW HT_.out HW_.out (by kernel_rfl)) (fun _ _ _ h=>h) (Or.inl ⟨by rfl,?_⟩) hHeld ?_ ?_;rotate_left
           ·
            rintro w' ⟨s0,s1,s2,s3⟩
            go_simp
            with_reducible rfl
           rotate_left
           ·
            simp only [Act.put,z1_,z2_,z3_,i64_w,i32_w]
            rfl
           refine one_ (i:=2) (N:=some 53) (mB_ 21 7) rfl rfl (one_of HT_.out (by kernel_rfl)) (by decide) (fun K hK=>?_);refine goes_ Try.func67 (by kernel_rfl) rfl #[.pointer (some ad229),.agg #[.int .i8 ((rd_T49 ((rd_T29 l0 0).f2) x5_2).f0),.int .i8 ((rd_T49 ((rd_T29 l0 0).f2) x5_2).f1),.int .i8 ((rd_T49 ((rd_T29 l0 0).f2) x5_2).f2),.int .i8 ((rd_T49 ((rd_T29 l0 0).f2) x5_2).f3)]] (by rfl) rfl rfl (by (try simp only [List.map_toArray,List.map_cons,List.map_nil]);first|done|rfl|(simp only [List.length_drop,List.length_take];rfl)) ?_
           with_reducible refine (spec_l01Lies.calls _ c0 l0 ((rd_T49 ((rd_T29 l0 0).f2) x5_2).f0) ((rd_T49 ((rd_T29 l0 0).f2) x5_2).f1) ((rd_T49 ((rd_T29 l0 0).f2) x5_2).f2) ((rd_T49 ((rd_T29 l0 0).f2) x5_2).f3) false _ ?side1 ?side2 A23.out).mono ?_
           (case side1=>repeat (first|exact (cB_ HR0.out HB.out)|(with_reducible refine Kd.C_alloc ?_ _)|(with_reducible refine Kd.C_drewN ?_ _)|(with_reducible refine Kd.C_drew ?_)))
           (case side2=>exact HC0.out)
           rintro e w39 ⟨rfl,hb⟩;refine ⟨_,rfl,?_⟩;have n0_:=am_ (kB_ (g:=gb219) (o:=.cells (arrC .i64 x220000_2) 91 (0,0)) BK219.out hb);have n1_:=am_ (kB_ (g:=gb220) (o:=.cells (arrC .i64 x221000_2) 91 (0,0)) BK220.out hb);have n2_:=am_ (kB_ BK234.out hb);have n3_:=am_ (bT_ HB.out hb);clear BK219;clear BK220;clear BK234;clear HB;have BK219:=n0_;have BK220:=n1_;have BK234:=n2_;have HB:=n3_;clear n0_ n1_ n2_ n3_;(try clear hb);(try clear hb2);(try clear hk);(try clear hi);refine hK.out _ _ ⟨(kC_ BK234.out 0).trans rfl,(kC_ BK234.out 1).trans rfl,(kC_ BK234.out 2).trans rfl,(kC_ BK234.out 3).trans rfl⟩ (fun hHeld=>?_);clear hK K;refine norm_ (a':=?_) ?_ ?_;rotate_left
           ·
            show Act.put _ (some 53) _ = _
            simp only [Act.put,z1_,z2_,z3_,i64_w,i32_w]
            rfl
           refine pure_ (i:=3) (N:=some 54) (v:=?_) (a':=?_) (mB_ 21 15) rfl rfl (any_of HT_.out (by kernel_rfl)) (fun _ _ _ h=>h) (Or.inl ⟨by rfl,?_⟩) ?_ ?_;rotate_left
           ·
            intro w'
            go_simp
            with_reducible rfl
           rotate_left
           ·
            simp only [Act.put,z1_,z2_,z3_,i64_w,i32_w]
            rfl
           refine pure_ (i:=4) (N:=some 55) (v:=?_) (a':=?_) (mB_ 21 31) rfl rfl (any_of HT_.out (by kernel_rfl)) (fun _ _ _ h=>h) (Or.inl ⟨by rfl,?_⟩) ?_ ?_;rotate_left
           ·
            intro w'
            go_simp
            with_reducible rfl
           rotate_left
           ·
            simp only [Act.put,z1_,z2_,z3_,i64_w,i32_w]
            rfl
           refine pure_ (i:=5) (N:=some 56) (v:=undef) (a':=?_) (mB_ 21 63) rfl rfl (any_of HT_.out (by kernel_rfl)) (fun _ _ _ h=>h) (Or.inr ⟨by rfl,rfl⟩) ?_ ?_;rotate_left
           ·
            simp only [Act.put,z1_,z2_,z3_,i64_w,i32_w]
            rfl
           refine pure_ (i:=6) (N:=some 57) (v:=undef) (a':=?_) (mB_ 21 127) rfl rfl (any_of HT_.out (by kernel_rfl)) (fun _ _ _ h=>h) (Or.inr ⟨by rfl,rfl⟩) ?_ ?_;rotate_left
           ·
            simp only [Act.put,z1_,z2_,z3_,i64_w,i32_w]
            rfl
           refine pure_ (i:=7) (N:=some 58) (v:=undef) (a':=?_) (mB_ 21 255) rfl rfl (any_of HT_.out (by kernel_rfl)) (fun _ _ _ h=>h) (Or.inr ⟨by rfl,rfl⟩) ?_ ?_;rotate_left
           ·
            simp only [Act.put,z1_,z2_,z3_,i64_w,i32_w]
            rfl
           refine pure_ (i:=8) (N:=some 59) (v:=undef) (a':=?_) (mB_ 21 511) rfl rfl (any_of HT_.out (by kernel_rfl)) (fun _ _ _ h=>h) (Or.inr ⟨by rfl,rfl⟩) ?_ ?_;rotate_left
           ·
            simp only [Act.put,z1_,z2_,z3_,i64_w,i32_w]
            rfl
           refine pure_ (i:=9) (N:=some 60) (v:=undef) (a':=?_) (mB_ 21 1023) rfl rfl (any_of HT_.out (by kernel_rfl)) (fun _ _ _ h=>h) (Or.inr ⟨by rfl,rfl⟩) ?_ ?_;rotate_left
           ·
            simp only [Act.put,z1_,z2_,z3_,i64_w,i32_w]
            rfl
           refine pure_ (i:=10) (N:=some 61) (v:=undef) (a':=?_) (mB_ 21 2047) rfl rfl (any_of HT_.out (by kernel_rfl)) (fun _ _ _ h=>h) (Or.inr ⟨by rfl,rfl⟩) ?_ ?_;rotate_left
           ·
            simp only [Act.put,z1_,z2_,z3_,i64_w,i32_w]
            rfl
           refine pure_ (i:=11) (N:=some 62) (v:=undef) (a':=?_) (mB_ 21 4095) rfl rfl (any_of HT_.out (by kernel_rfl)) (fun _ _ _ h=>h) (Or.inr ⟨by rfl,rfl⟩) ?_ ?_;rotate_left
           ·
            simp only [Act.put,z1_,z2_,z3_,i64_w,i32_w]
            rfl
           refine pure_ (i:=12) (N:=some 63) (v:=undef) (a':=?_) (mB_ 21 8191) rfl rfl (any_of HT_.out (by kernel_rfl)) (fun _ _ _ h=>h) (Or.inr ⟨by rfl,rfl⟩) ?_ ?_;rotate_left
           ·
            simp only [Act.put,z1_,z2_,z3_,i64_w,i32_w]
            rfl
           refine pure_ (i:=13) (N:=some 64) (v:=undef) (a':=?_) (mB_ 21 16383) rfl rfl (any_of HT_.out (by kernel_rfl)) (fun _ _ _ h=>h) (Or.inr ⟨by rfl,rfl⟩) ?_ ?_;rotate_left
           ·
            simp only [Act.put,z1_,z2_,z3_,i64_w,i32_w]
            rfl
           refine pure_ (i:=14) (N:=some 65) (v:=undef) (a':=?_) (mB_ 21 32767) rfl rfl (any_of HT_.out (by kernel_rfl)) (fun _ _ _ h=>h) (Or.inr ⟨by rfl,rfl⟩) ?_ ?_;rotate_left
           ·
            simp only [Act.put,z1_,z2_,z3_,i64_w,i32_w]
            rfl
           refine pure_ (i:=15) (N:=some 66) (v:=undef) (a':=?_) (mB_ 21 65535) rfl rfl (any_of HT_.out (by kernel_rfl)) (fun _ _ _ h=>h) (Or.inr ⟨by rfl,rfl⟩) ?_ ?_;rotate_left
           ·
            simp only [Act.put,z1_,z2_,z3_,i64_w,i32_w]
            rfl
           refine pure_ (i:=16) (N:=some 67) (v:=undef) (a':=?_) (mB_ 21 131071) rfl rfl (any_of HT_.out (by kernel_rfl)) (fun _ _ _ h=>h) (Or.inr ⟨by rfl,rfl⟩) ?_ ?_;rotate_left
           ·
            simp only [Act.put,z1_,z2_,z3_,i64_w,i32_w]
            rfl
           refine pure_ (i:=17) (N:=some 68) (v:=undef) (a':=?_) (mB_ 21 262143) rfl rfl (any_of HT_.out (by kernel_rfl)) (fun _ _ _ h=>h) (Or.inr ⟨by rfl,rfl⟩) ?_ ?_;rotate_left
           ·
            simp only [Act.put,z1_,z2_,z3_,i64_w,i32_w]
            rfl
           refine pure_ (i:=18) (N:=some 69) (v:=undef) (a':=?_) (mB_ 21 524287) rfl rfl (any_of HT_.out (by kernel_rfl)) (fun _ _ _ h=>h) (Or.inr ⟨by rfl,rfl⟩) ?_ ?_;rotate_left
           ·
            simp only [Act.put,z1_,z2_,z3_,i64_w,i32_w]
            rfl
           refine pure_ (i:=19) (N:=some 70) (v:=undef) (a':=?_) (mB_ 21 1048575) rfl rfl (any_of HT_.out (by kernel_rfl)) (fun _ _ _ h=>h) (Or.inr ⟨by rfl,rfl⟩) ?_ ?_;rotate_left
           ·
            simp only [Act.put,z1_,z2_,z3_,i64_w,i32_w]
            rfl
           refine pure_ (i:=20) (N:=some 71) (v:=?_) (a':=?_) (mB_ 21 2097151) rfl rfl (any_of HT_.out (by kernel_rfl)) (fun _ _ _ h=>h) (Or.inl ⟨by rfl,?_⟩) ?_ ?_;rotate_left
           ·
            intro w'
            go_simp
            with_reducible rfl
           rotate_left
           ·
            simp only [Act.put,z1_,z2_,z3_,i64_w,i32_w]
            rfl
           refine done_ (done_of HT_.out (by kernel_rfl)) ?_
           try go_wp2
           go_meet
           case rel=>exact ⟨_,(true),(by first|rfl|(simp;done)|(simp [*];done)),H',⟨by have:=HJ1.out;have:=HK2.out;first|omega|exact Nat.le_refl _⟩,⟨by (with_reducible repeat (first|apply kN_|apply kD_|apply kA_));exact BK219.out⟩,⟨by (with_reducible repeat (first|apply kN_|apply kD_|apply kA_));exact BK220.out⟩,⟨by (with_reducible repeat (first|apply kN_|apply kD_|apply kA_));exact BK234.out⟩,⟨by repeat (first|(with_reducible first|exact HB.out|apply bA_|apply bN_|apply bD_|refine bS_ ?_ GE219.out|refine bS_ ?_ GE220.out|refine bS_ ?_ GE234.out)|exact HB.out)⟩⟩
         case rest =>
          clear HC18;(try clear c2);(try clear p2);(try clear q2);(try clear hx2);(try clear c6);(try clear c8);(try clear c23);(try clear p23);(try clear q23);(try clear hx23);(try clear c24);(try clear c25);(try clear c25b0);(try clear c27);(try clear c28);(try clear hx236_0);(try clear hx236_1);(try clear hx236_2);(try clear hx237_0);(try clear hx237_1);(try clear hx237_2);(try clear hx238_0);(try clear hx238_1);(try clear hx238_2);(try clear hx238_3);(try clear p238);(try clear q238);obtain ⟨kq,x71_17,rfl,HA,HJ17,BK219,BK220,BK234,HB⟩:=hcut
          cases kq with
          | zero=>exact absurd HA.out (by simp [spec_l01Lay.j2])
          | succ kj17 =>
           have H:=HA.out;clear HA;simp only [spec_l01Lay.j2] at H
           by_cases c40 : x71_17 = true
           ·
            subst c40;have H1 : (if x221000_2.length = 144 then (if x220000_2.length = 144 then (some (x221000_2,false)) else (none)) else (none)) = some (r1,r2):=by rw [if_pos rfl] at H;exact H
            clear H;have H:=H1;clear H1
            by_cases c41 : x221000_2.length = 144
            ·
             rw [if_pos c41] at H;have c41b0:=eq_true c41;have c41b1 : decide (x221000_2.length = 144) = true:=decide_eq_true c41;clear c41
             by_cases c42 : x220000_2.length = 144
             ·
              rw [if_pos c42] at H;have c42b0:=eq_true c42;have c42b1 : decide (x220000_2.length = 144) = true:=decide_eq_true c42;clear c42;simp only [Option.some.injEq,Prod.mk.injEq] at H;obtain ⟨rfl,rfl⟩:=H
              go_wp2_with (first|((with_reducible refine gate_dst (N:=72) rfl ?_);(try (refine gate_guard (by rfl) ?_;dsimp only));refine arr_load (p:=4) (n:=144) (k:=.i64) (g:=gb220) (l:=x221000_2) ?hg (N:=72) ?hd (t:=91) ?ho ?hp BK220.out Try.underlying91 (by kernel_rfl) (od_ (by first|(with_reducible assumption)|assumption)) ?_;(case hd=>rfl);(case hg=>rfl);(case ho=>rfl);(case hp=>rfl))|((with_reducible refine gate_store (t:=91) (p:=2) rfl ?_);refine arr_store (p:=2) (v:=?vv_w43) (n:=144) (k:=.i64) (g:=gb219) (l:=x220000_2) (l2:=x221000_2) ?hg ?hn (t:=91) ?ho ?hp ?hv BK219.out (by kernel_rfl) (od_ (by first|(with_reducible assumption)|assumption)) (od_ (by first|(with_reducible assumption)|assumption)) ?_;(case ho=>rfl);(case hg=>rfl);(case hn=>rfl);(case hp=>rfl);(case hv=>rfl);intro w43 hg hx;have n0_:=am_ (hx);have n1_:=am_ (blk_grown (g:=gb220) (o:=.cells (arrC .i64 x221000_2) 91 (0,0)) BK220.out hg (fun e_=>NB220_219.out (Option.some.inj e_)));have n2_:=am_ (blk_grown (g:=gb234) (o:=.cells #[.int .i8 ((rd_T49 ((rd_T29 l0 0).f2) x5_2).f0),.int .i8 ((rd_T49 ((rd_T29 l0 0).f2) x5_2).f1),.int .i8 ((rd_T49 ((rd_T29 l0 0).f2) x5_2).f2),.int .i8 ((rd_T49 ((rd_T29 l0 0).f2) x5_2).f3)] 49 (0,0)) BK234.out hg (fun e_=>NB234_219.out (Option.some.inj e_)));have n3_:=am_ (Below.grown HB.out hg (bZ_ HB.out) (fun k_ e_=>by cases e_;exact GE219.out));clear BK219;clear BK220;clear BK234;clear HB;have BK219:=n0_;have BK220:=n1_;have BK234:=n2_;have HB:=n3_;clear n0_ n1_ n2_ n3_;clear hg hx))
              refine bodyPost_ret (results_ct rfl _ _ gb219 91 (arrC .i64 x221000_2) (0,0) _ rfl BK219.out Try.underlying91 rfl (by first|(rw [arrC_size,(od_ (by first|(with_reducible assumption)|assumption) : x221000_2.length = 144)];kernel_rfl)|kernel_rfl)) rfl ?_;exact ⟨by first|rfl|(simp [errW_none,errW_some] <;> rfl)|(simp [*,errW_none,errW_some] <;> rfl),by repeat (first|(with_reducible first|exact HB.out|apply bA_|apply bN_|apply bD_|refine bS_ ?_ GE219.out|refine bS_ ?_ GE220.out|refine bS_ ?_ GE234.out)|exact HB.out)⟩
             ·
              rw [if_neg c42] at H;exact absurd H (by simp)
            ·
             rw [if_neg c41] at H;exact absurd H (by simp)
           ·
            replace c40:=Bool.eq_false_iff.mpr c40;subst c40;have H1 : (spec_l01Lay.l1 kj17 l0 x5_2 ((rd_T49 ((rd_T29 l0 0).f2) x5_2).f1) x220000_2 x221000_2 ((rd_T49 ((rd_T29 l0 0).f2) x5_2).f0) ((rd_T49 ((rd_T29 l0 0).f2) x5_2).f1) ((rd_T49 ((rd_T29 l0 0).f2) x5_2).f2) ((rd_T49 ((rd_T29 l0 0).f2) x5_2).f3)) = some (r1,r2):=by rw [if_neg (show ¬ (false = true) by decide)] at H;exact H
            clear H;have H:=H1;clear H1;have H':=am_ H;clear H;have hnb44:=NB234_219.out;have hnc44:=NB219_234.out;have hnb45:=NB234_220.out;have hnc45:=NB220_234.out;have hcz46_0 : wc.cell? ⟨gb234,0,none⟩ = some (.int .i8 ((rd_T49 ((rd_T29 l0 0).f2) x5_2).f0)):=(kC_ BK234.out 0).trans rfl;have hcz46_1 : wc.cell? ⟨gb234,1,none⟩ = some (.int .i8 ((rd_T49 ((rd_T29 l0 0).f2) x5_2).f1)):=(kC_ BK234.out 1).trans rfl;have hcz46_2 : wc.cell? ⟨gb234,2,none⟩ = some (.int .i8 ((rd_T49 ((rd_T29 l0 0).f2) x5_2).f2)):=(kC_ BK234.out 2).trans rfl;have hcz46_3 : wc.cell? ⟨gb234,3,none⟩ = some (.int .i8 ((rd_T49 ((rd_T29 l0 0).f2) x5_2).f3)):=(kC_ BK234.out 3).trans rfl;have hfz46_0:=kF_ BK234.out 0;have hfz46_1:=kF_ BK234.out 1;have hfz46_2:=kF_ BK234.out 2;have hfz46_3:=kF_ BK234.out 3
            go_wp2
            go_loopg [7] kj17 (fun kq v7 w'=>∃ (x7_4 : Int) (x220000_4 : List Int) (x221000_4 : List Int),v7 = .int .i8 x7_4 ∧ Aside0 (spec_l01Lay.l1 kq l0 x5_2 x7_4 x220000_4 x221000_4 ((rd_T49 ((rd_T29 l0 0).f2) x5_2).f0) ((rd_T49 ((rd_T29 l0 0).f2) x5_2).f1) ((rd_T49 ((rd_T29 l0 0).f2) x5_2).f2) ((rd_T49 ((rd_T29 l0 0).f2) x5_2).f3) = some (r1,r2)) ∧ Aside0 (kq≤kj17) ∧ Aside0 (w'.heap[gb219]? = some (.cells (arrC .i64 x220000_4) 91 (0,0))) ∧ Aside0 (w'.heap[gb220]? = some (.cells (arrC .i64 x221000_4) 91 (0,0))) ∧ Aside0 (w'.heap[gb234]? = some (.cells #[.int .i8 ((rd_T49 ((rd_T29 l0 0).f2) x5_2).f0),.int .i8 ((rd_T49 ((rd_T29 l0 0).f2) x5_2).f1),.int .i8 ((rd_T49 ((rd_T29 l0 0).f2) x5_2).f2),.int .i8 ((rd_T49 ((rd_T29 l0 0).f2) x5_2).f3)] 49 (0,0))) ∧ Aside0 (Below w.heap.size w w'))
            case atStart=>exact ⟨(((rd_T49 ((rd_T29 l0 0).f2) x5_2).f1)),(x220000_2),(x221000_2),(by first|rfl|(simp;done)|(simp [*];done)),H',⟨Nat.le_refl _⟩,⟨by (with_reducible repeat (first|apply kN_|apply kD_|apply kA_));exact BK219.out⟩,⟨by (with_reducible repeat (first|apply kN_|apply kD_|apply kA_));exact BK220.out⟩,⟨by (with_reducible repeat (first|apply kN_|apply kD_|apply kA_));exact BK234.out⟩,⟨by repeat (first|(with_reducible first|exact HB.out|apply bA_|apply bN_|apply bD_|refine bS_ ?_ GE219.out|refine bS_ ?_ GE220.out|refine bS_ ?_ GE234.out)|exact HB.out)⟩⟩
            case round =>
             clear H';(try clear c2);(try clear p2);(try clear q2);(try clear hx2);(try clear c4);(try clear c6);(try clear c8);(try clear c23);(try clear p23);(try clear q23);(try clear hx23);(try clear c24);(try clear c25);(try clear c25b0);(try clear c27);(try clear c28);(try clear c40);(try clear c41);(try clear c41b0);(try clear c41b1);(try clear c42);(try clear c42b0);(try clear c42b1);(try clear c44);(try clear c45);(try clear hcz46_0);(try clear hcz46_1);(try clear hcz46_2);(try clear hcz46_3);(try clear hfz46_0);(try clear hfz46_1);(try clear hfz46_2);(try clear hfz46_3);(try clear hx236_0);(try clear hx236_1);(try clear hx236_2);(try clear hx237_0);(try clear hx237_1);(try clear hx237_2);(try clear hx238_0);(try clear hx238_1);(try clear hx238_2);(try clear hx238_3);(try clear p2);(try clear p23);(try clear p238);(try clear q2);(try clear q23);(try clear q238);obtain ⟨x7_4,x220000_4,x221000_4,rfl,HA,HK4,BK219,BK220,BK234,HB⟩:=hrel
             cases gk with
             | zero=>exact absurd HA.out (by simp [spec_l01Lay.l1])
             | succ k4 =>
              have H:=HA.out;clear HA;simp only [spec_l01Lay.l1] at H
              by_cases c47 : x7_4 < (IntKind.i8.wrap (((rd_T49 ((rd_T29 l0 0).f2) x5_2).f1) + ((rd_T49 ((rd_T29 l0 0).f2) x5_2).f3)))
              ·
               rw [if_pos c47] at H;have c47b0 : decide (x7_4 < (IntKind.i8.wrap (((rd_T49 ((rd_T29 l0 0).f2) x5_2).f1) + ((rd_T49 ((rd_T29 l0 0).f2) x5_2).f3)))) = true:=decide_eq_true c47;clear c47;have H':=am_ H;clear H;have hnb48:=NB234_219.out;have hnc48:=NB219_234.out;have hnb49:=NB234_220.out;have hnc49:=NB220_234.out;have hcz50_0 : wr.cell? ⟨gb234,0,none⟩ = some (.int .i8 ((rd_T49 ((rd_T29 l0 0).f2) x5_2).f0)):=(kC_ BK234.out 0).trans rfl;have hcz50_1 : wr.cell? ⟨gb234,1,none⟩ = some (.int .i8 ((rd_T49 ((rd_T29 l0 0).f2) x5_2).f1)):=(kC_ BK234.out 1).trans rfl;have hcz50_2 : wr.cell? ⟨gb234,2,none⟩ = some (.int .i8 ((rd_T49 ((rd_T29 l0 0).f2) x5_2).f2)):=(kC_ BK234.out 2).trans rfl;have hcz50_3 : wr.cell? ⟨gb234,3,none⟩ = some (.int .i8 ((rd_T49 ((rd_T29 l0 0).f2) x5_2).f3)):=(kC_ BK234.out 3).trans rfl;have hfz50_0:=kF_ BK234.out 0;have hfz50_1:=kF_ BK234.out 1;have hfz50_2:=kF_ BK234.out 2;have hfz50_3:=kF_ BK234.out 3
               go_wp2
               go_loopg [8] k4 (fun kq v8 w'=>∃ (x8_5 : Int) (x220000_5 : List Int) (x221000_5 : List Int),v8 = .int .i8 x8_5 ∧ Aside0 (spec_l01Lay.l2 kq l0 x5_2 x7_4 x8_5 x220000_5 x221000_5 ((rd_T49 ((rd_T29 l0 0).f2) x5_2).f0) ((rd_T49 ((rd_T29 l0 0).f2) x5_2).f1) ((rd_T49 ((rd_T29 l0 0).f2) x5_2).f2) ((rd_T49 ((rd_T29 l0 0).f2) x5_2).f3) = some (r1,r2)) ∧ Aside0 (kq≤k4) ∧ Aside0 (w'.heap[gb219]? = some (.cells (arrC .i64 x220000_5) 91 (0,0))) ∧ Aside0 (w'.heap[gb220]? = some (.cells (arrC .i64 x221000_5) 91 (0,0))) ∧ Aside0 (w'.heap[gb234]? = some (.cells #[.int .i8 ((rd_T49 ((rd_T29 l0 0).f2) x5_2).f0),.int .i8 ((rd_T49 ((rd_T29 l0 0).f2) x5_2).f1),.int .i8 ((rd_T49 ((rd_T29 l0 0).f2) x5_2).f2),.int .i8 ((rd_T49 ((rd_T29 l0 0).f2) x5_2).f3)] 49 (0,0))) ∧ Aside0 (Below w.heap.size w w'))
               case atStart=>exact ⟨(((rd_T49 ((rd_T29 l0 0).f2) x5_2).f0)),(x220000_4),(x221000_4),(by first|rfl|(simp;done)|(simp [*];done)),H',⟨Nat.le_refl _⟩,⟨by (with_reducible repeat (first|apply kN_|apply kD_|apply kA_));exact BK219.out⟩,⟨by (with_reducible repeat (first|apply kN_|apply kD_|apply kA_));exact BK220.out⟩,⟨by (with_reducible repeat (first|apply kN_|apply kD_|apply kA_));exact BK234.out⟩,⟨by repeat (first|(with_reducible first|exact HB.out|apply bA_|apply bN_|apply bD_|refine bS_ ?_ GE219.out|refine bS_ ?_ GE220.out|refine bS_ ?_ GE234.out)|exact HB.out)⟩⟩
               case round =>
                clear H';(try clear c2);(try clear p2);(try clear q2);(try clear hx2);(try clear c4);(try clear c6);(try clear c8);(try clear c23);(try clear p23);(try clear q23);(try clear hx23);(try clear c24);(try clear c25);(try clear c25b0);(try clear c27);(try clear c28);(try clear c40);(try clear c41);(try clear c41b0);(try clear c41b1);(try clear c42);(try clear c42b0);(try clear c42b1);(try clear c44);(try clear c45);(try clear c47);(try clear c47b0);(try clear c48);(try clear c49);(try clear hcz46_0);(try clear hcz46_1);(try clear hcz46_2);(try clear hcz46_3);(try clear hcz50_0);(try clear hcz50_1);(try clear hcz50_2);(try clear hcz50_3);(try clear hfz46_0);(try clear hfz46_1);(try clear hfz46_2);(try clear hfz46_3);(try clear hfz50_0);(try clear hfz50_1);(try clear hfz50_2);(try clear hfz50_3);(try clear hx236_0);(try clear hx236_1);(try clear hx236_2);(try clear hx237_0);(try clear hx237_1);(try clear hx237_2);(try clear hx238_0);(try clear hx238_1);(try clear hx238_2);(try clear hx238_3);(try clear p2);(try clear p23);(try clear p238);(try clear q2);(try clear q23);(try clear q238);obtain ⟨x8_5,x220000_5,x221000_5,rfl,HA,HK5,BK219,BK220,BK234,HB⟩:=hrel
                cases gk with
                | zero=>exact absurd HA.out (by simp [spec_l01Lay.l2])
                | succ k5 =>
                 have H:=HA.out;clear HA;simp only [spec_l01Lay.l2] at H
                 by_cases c51 : x8_5 < (IntKind.i8.wrap (((rd_T49 ((rd_T29 l0 0).f2) x5_2).f0) + ((rd_T49 ((rd_T29 l0 0).f2) x5_2).f2)))
                 ·
                  rw [if_pos c51] at H;have c51b0 : decide (x8_5 < (IntKind.i8.wrap (((rd_T49 ((rd_T29 l0 0).f2) x5_2).f0) + ((rd_T49 ((rd_T29 l0 0).f2) x5_2).f2)))) = true:=decide_eq_true c51;clear c51
                  by_cases c52 : 0≤x7_4
                  ·
                   rw [if_pos c52] at H;have c52b0 : decide (0≤x7_4) = true:=decide_eq_true c52;clear c52
                   by_cases c53 : x7_4 < 12
                   ·
                    rw [if_pos c53] at H;have c53b0 : decide (x7_4 < 12) = true:=decide_eq_true c53;clear c53
                    by_cases c55 : 0≤x8_5
                    ·
                     rw [if_pos c55] at H;have c55b0 : decide (0≤x8_5) = true:=decide_eq_true c55;clear c55
                     by_cases c56 : x8_5 < 12
                     ·
                      rw [if_pos c56] at H;have c56b0 : decide (x8_5 < 12) = true:=decide_eq_true c56;clear c56
                      by_cases c58 : x7_4 * 12 + x8_5 < (x221000_5.length : Int)
                      ·
                       rw [if_pos c58] at H;have c58b0:=eq_true c58;have c58b1 : decide (x7_4 * 12 + x8_5 < (x221000_5.length : Int)) = true:=decide_eq_true c58
                       by_cases c59 : (rd x221000_5 (x7_4 * 12 + x8_5)) = 0
                       ·
                        rw [if_pos c59] at H;have c59b0 : ((rd x221000_5 (x7_4 * 12 + x8_5)) == 0) = true:=beq_iff_eq.mpr c59;have c59b1 : ((rd x221000_5 (x7_4 * 12 + x8_5)) != 0) = false:=bne_eq_false_iff_eq.mpr c59;clear c59;obtain ⟨y240,hy240⟩ : ∃ y_ : List Int,y_ = (x221000_5.set (x7_4 * 12 + x8_5 : Int).toNat (wrap64 (x5_2 + 1))):=⟨_,rfl⟩
                        replace H : (spec_l01Lay.l2 k5 l0 x5_2 x7_4 (IntKind.i8.wrap (x8_5 + 1)) x220000_5 y240 ((rd_T49 ((rd_T29 l0 0).f2) x5_2).f0) ((rd_T49 ((rd_T29 l0 0).f2) x5_2).f1) ((rd_T49 ((rd_T29 l0 0).f2) x5_2).f2) ((rd_T49 ((rd_T29 l0 0).f2) x5_2).f3)) = some (r1,r2):=by first|(rw [hy240];with_reducible exact H)|(have H2_:=(Option.bind_some _ _).symm.trans H;rw [hy240];with_reducible exact H2_)|(have H2_:=(Option.bind_some _ _).symm.trans H;with_reducible exact H2_)|with_reducible exact H|(rw [hy240];exact H)|exact H
                        have Ny240:=am_ hy240;clear hy240;have H':=am_ H;clear H;have hnb62:=NB234_219.out;have hnc62:=NB219_234.out;have hnb63:=NB234_220.out;have hnc63:=NB220_234.out;have hcz64_0 : wr.cell? ⟨gb234,0,none⟩ = some (.int .i8 ((rd_T49 ((rd_T29 l0 0).f2) x5_2).f0)):=(kC_ BK234.out 0).trans rfl;have hcz64_1 : wr.cell? ⟨gb234,1,none⟩ = some (.int .i8 ((rd_T49 ((rd_T29 l0 0).f2) x5_2).f1)):=(kC_ BK234.out 1).trans rfl;have hcz64_2 : wr.cell? ⟨gb234,2,none⟩ = some (.int .i8 ((rd_T49 ((rd_T29 l0 0).f2) x5_2).f2)):=(kC_ BK234.out 2).trans rfl;have hcz64_3 : wr.cell? ⟨gb234,3,none⟩ = some (.int .i8 ((rd_T49 ((rd_T29 l0 0).f2) x5_2).f3)):=(kC_ BK234.out 3).trans rfl;have hfz64_0:=kF_ BK234.out 0;have hfz64_1:=kF_ BK234.out 1;have hfz64_2:=kF_ BK234.out 2;have hfz64_3:=kF_ BK234.out 3;have p54 : 0≤(x7_4 : Int):=od_ (by first|(with_reducible assumption)|assumption);have q54 : (x7_4 : Int) < (12 : Int):=od_ (by first|(with_reducible assumption)|assumption);replace p54:=eq_true p54;replace q54:=eq_true q54;have p57 : 0≤(x8_5 : Int):=od_ (by first|(with_reducible assumption)|assumption);have q57 : (x8_5 : Int) < (12 : Int):=od_ (by first|(with_reducible assumption)|assumption);replace p57:=eq_true p57;replace q57:=eq_true q57;have haz65 : wr.cell? ⟨gb220,x7_4.toNat * 12 + x8_5.toNat,none⟩ = some (.int .i64 (rd x221000_5 (x7_4 * 12 + x8_5))):=arr_cell BK220.out (x7_4 * 12 + x8_5) _ (by have h0_ : (0 : Int)≤x7_4:=od_ (by first|(with_reducible assumption)|assumption);have h1_ : (0 : Int)≤x8_5:=od_ (by first|(with_reducible assumption)|assumption);omega) (od_ (by first|(with_reducible assumption)|assumption));have p60 : 0≤(x7_4 : Int):=od_ (by first|(with_reducible assumption)|assumption);have q60 : (x7_4 : Int) < (12 : Int):=od_ (by first|(with_reducible assumption)|assumption);replace p60:=eq_true p60;replace q60:=eq_true q60;have p61 : 0≤(x8_5 : Int):=od_ (by first|(with_reducible assumption)|assumption);have q61 : (x8_5 : Int) < (12 : Int):=od_ (by first|(with_reducible assumption)|assumption);replace p61:=eq_true p61;replace q61:=eq_true q61
                        go_wp2_with (first|((with_reducible refine gate_store (t:=2) (p:=107) rfl ?_);refine arr_put (te:=2) (p:=107) (v:=?vv_w66) (j:=?jj_w66) (k:=.i64) ?hg ?hn ?ho (i:=(x7_4 * 12 + x8_5)) (l:=x221000_5) (g:=gb220) (x:=(wrap64 (x5_2 + 1))) ?hp BK220.out ?hj (od_ (by first|(with_reducible assumption)|assumption)) ?hr ?_;(case ho=>rfl);(case hg=>rfl);(case hn=>rfl);(case hp=>rfl);(case hj=>have h0_ : (0 : Int)≤x7_4:=od_ (by first|(with_reducible assumption)|assumption);have h1_ : (0 : Int)≤x8_5:=od_ (by first|(with_reducible assumption)|assumption);omega);(case hr=>intro hcell_ hfroz_;first|(go_simp;done)|(go_simp;rfl));intro w66 hg hx;rw [← Ny240.out] at hx;have n0_:=am_ (blk_grown (g:=gb219) (o:=.cells (arrC .i64 x220000_5) 91 (0,0)) BK219.out hg (fun e_=>NB219_220.out (Option.some.inj e_)));have n1_:=am_ (hx);have n2_:=am_ (blk_grown (g:=gb234) (o:=.cells #[.int .i8 ((rd_T49 ((rd_T29 l0 0).f2) x5_2).f0),.int .i8 ((rd_T49 ((rd_T29 l0 0).f2) x5_2).f1),.int .i8 ((rd_T49 ((rd_T29 l0 0).f2) x5_2).f2),.int .i8 ((rd_T49 ((rd_T29 l0 0).f2) x5_2).f3)] 49 (0,0)) BK234.out hg (fun e_=>NB234_220.out (Option.some.inj e_)));have n3_:=am_ (Below.grown HB.out hg (bZ_ HB.out) (fun k_ e_=>by cases e_;exact GE220.out));clear BK219;clear BK220;clear BK234;clear HB;have BK219:=n0_;have BK220:=n1_;have BK234:=n2_;have HB:=n3_;clear n0_ n1_ n2_ n3_;clear hg hx))
                        go_roundg k5
                        case measure=>have:=HJ1.out;have:=HK2.out;have:=HJ17.out;have:=HK4.out;have:=HK5.out;omega
                        case rel=>exact ⟨(IntKind.i8.wrap (x8_5 + 1)),(x220000_5),(y240),(by first|rfl|(simp;done)|(simp [*];done)),H',⟨by have:=HJ1.out;have:=HK2.out;have:=HJ17.out;have:=HK4.out;have:=HK5.out;omega⟩,⟨by (with_reducible repeat (first|apply kN_|apply kD_|apply kA_));exact BK219.out⟩,⟨by (with_reducible repeat (first|apply kN_|apply kD_|apply kA_));exact BK220.out⟩,⟨by (with_reducible repeat (first|apply kN_|apply kD_|apply kA_));exact BK234.out⟩,⟨by repeat (first|(with_reducible first|exact HB.out|apply bA_|apply bN_|apply bD_|refine bS_ ?_ GE219.out|refine bS_ ?_ GE220.out|refine bS_ ?_ GE234.out)|exact HB.out)⟩⟩
                       ·
                        rw [if_neg c59] at H;have c59b0 : ((rd x221000_5 (x7_4 * 12 + x8_5)) == 0) = false:=beq_eq_false_iff_ne.mpr c59;have c59b1 : ((rd x221000_5 (x7_4 * 12 + x8_5)) != 0) = true:=bne_iff_ne.mpr c59
                        by_cases c67 : x221000_5.length = 144
                        ·
                         rw [if_pos c67] at H;have c67b0:=eq_true c67;have c67b1 : decide (x221000_5.length = 144) = true:=decide_eq_true c67;clear c67
                         by_cases c68 : x220000_5.length = 144
                         ·
                          rw [if_pos c68] at H;have c68b0:=eq_true c68;have c68b1 : decide (x220000_5.length = 144) = true:=decide_eq_true c68;clear c68;simp only [Option.some.injEq,Prod.mk.injEq] at H;obtain ⟨rfl,rfl⟩:=H;have hnb69:=NB234_219.out;have hnc69:=NB219_234.out;have hnb70:=NB234_220.out;have hnc70:=NB220_234.out;have hcz71_0 : wr.cell? ⟨gb234,0,none⟩ = some (.int .i8 ((rd_T49 ((rd_T29 l0 0).f2) x5_2).f0)):=(kC_ BK234.out 0).trans rfl;have hcz71_1 : wr.cell? ⟨gb234,1,none⟩ = some (.int .i8 ((rd_T49 ((rd_T29 l0 0).f2) x5_2).f1)):=(kC_ BK234.out 1).trans rfl;have hcz71_2 : wr.cell? ⟨gb234,2,none⟩ = some (.int .i8 ((rd_T49 ((rd_T29 l0 0).f2) x5_2).f2)):=(kC_ BK234.out 2).trans rfl;have hcz71_3 : wr.cell? ⟨gb234,3,none⟩ = some (.int .i8 ((rd_T49 ((rd_T29 l0 0).f2) x5_2).f3)):=(kC_ BK234.out 3).trans rfl;have hfz71_0:=kF_ BK234.out 0;have hfz71_1:=kF_ BK234.out 1;have hfz71_2:=kF_ BK234.out 2;have hfz71_3:=kF_ BK234.out 3;have p54 : 0≤(x7_4 : Int):=od_ (by first|(with_reducible assumption)|assumption);have q54 : (x7_4 : Int) < (12 : Int):=od_ (by first|(with_reducible assumption)|assumption);replace p54:=eq_true p54;replace q54:=eq_true q54;have p57 : 0≤(x8_5 : Int):=od_ (by first|(with_reducible assumption)|assumption);have q57 : (x8_5 : Int) < (12 : Int):=od_ (by first|(with_reducible assumption)|assumption);replace p57:=eq_true p57;replace q57:=eq_true q57;have haz72 : wr.cell? ⟨gb220,x7_4.toNat * 12 + x8_5.toNat,none⟩ = some (.int .i64 (rd x221000_5 (x7_4 * 12 + x8_5))):=arr_cell BK220.out (x7_4 * 12 + x8_5) _ (by have h0_ : (0 : Int)≤x7_4:=od_ (by first|(with_reducible assumption)|assumption);have h1_ : (0 : Int)≤x8_5:=od_ (by first|(with_reducible assumption)|assumption);omega) (od_ (by first|(with_reducible assumption)|assumption))
                          go_wp2_with (first|((with_reducible refine gate_dst (N:=101) rfl ?_);(try (refine gate_guard (by rfl) ?_;dsimp only));refine arr_load (p:=4) (n:=144) (k:=.i64) (g:=gb220) (l:=x221000_5) ?hg (N:=101) ?hd (t:=91) ?ho ?hp BK220.out Try.underlying91 (by kernel_rfl) (od_ (by first|(with_reducible assumption)|assumption)) ?_;(case hd=>rfl);(case hg=>rfl);(case ho=>rfl);(case hp=>rfl))|((with_reducible refine gate_store (t:=91) (p:=2) rfl ?_);refine arr_store (p:=2) (v:=?vv_w73) (n:=144) (k:=.i64) (g:=gb219) (l:=x220000_5) (l2:=x221000_5) ?hg ?hn (t:=91) ?ho ?hp ?hv BK219.out (by kernel_rfl) (od_ (by first|(with_reducible assumption)|assumption)) (od_ (by first|(with_reducible assumption)|assumption)) ?_;(case ho=>rfl);(case hg=>rfl);(case hn=>rfl);(case hp=>rfl);(case hv=>rfl);intro w73 hg hx;have n0_:=am_ (hx);have n1_:=am_ (blk_grown (g:=gb220) (o:=.cells (arrC .i64 x221000_5) 91 (0,0)) BK220.out hg (fun e_=>NB220_219.out (Option.some.inj e_)));have n2_:=am_ (blk_grown (g:=gb234) (o:=.cells #[.int .i8 ((rd_T49 ((rd_T29 l0 0).f2) x5_2).f0),.int .i8 ((rd_T49 ((rd_T29 l0 0).f2) x5_2).f1),.int .i8 ((rd_T49 ((rd_T29 l0 0).f2) x5_2).f2),.int .i8 ((rd_T49 ((rd_T29 l0 0).f2) x5_2).f3)] 49 (0,0)) BK234.out hg (fun e_=>NB234_219.out (Option.some.inj e_)));have n3_:=am_ (Below.grown HB.out hg (bZ_ HB.out) (fun k_ e_=>by cases e_;exact GE219.out));clear BK219;clear BK220;clear BK234;clear HB;have BK219:=n0_;have BK220:=n1_;have BK234:=n2_;have HB:=n3_;clear n0_ n1_ n2_ n3_;clear hg hx))
                          refine bodyPost_ret (results_ct rfl _ _ gb219 91 (arrC .i64 x221000_5) (0,0) _ rfl BK219.out Try.underlying91 rfl (by first|(rw [arrC_size,(od_ (by first|(with_reducible assumption)|assumption) : x221000_5.length = 144)];kernel_rfl)|kernel_rfl)) rfl ?_;exact ⟨by first|rfl|(simp [errW_none,errW_some] <;> rfl)|(simp [*,errW_none,errW_some] <;> rfl),by repeat (first|(with_reducible first|exact HB.out|apply bA_|apply bN_|apply bD_|refine bS_ ?_ GE219.out|refine bS_ ?_ GE220.out|refine bS_ ?_ GE234.out)|exact HB.out)⟩
                         ·
                          rw [if_neg c68] at H;exact absurd H (by simp)
                        ·
                         rw [if_neg c67] at H;exact absurd H (by simp)
                      ·
                       rw [if_neg c58] at H;exact absurd H (by simp)
                     ·
                      rw [if_neg c56] at H;exact absurd H (by simp)
                    ·
                     rw [if_neg c55] at H;exact absurd H (by simp)
                   ·
                    rw [if_neg c53] at H;exact absurd H (by simp)
                  ·
                   rw [if_neg c52] at H;exact absurd H (by simp)
                 ·
                  rw [if_neg c51] at H;have c51b0 : decide (x8_5 < (IntKind.i8.wrap (((rd_T49 ((rd_T29 l0 0).f2) x5_2).f0) + ((rd_T49 ((rd_T29 l0 0).f2) x5_2).f2)))) = false:=decide_eq_false c51;clear c51;have H':=am_ H;clear H;have hnb74:=NB234_219.out;have hnc74:=NB219_234.out;have hnb75:=NB234_220.out;have hnc75:=NB220_234.out;have hcz76_0 : wr.cell? ⟨gb234,0,none⟩ = some (.int .i8 ((rd_T49 ((rd_T29 l0 0).f2) x5_2).f0)):=(kC_ BK234.out 0).trans rfl;have hcz76_1 : wr.cell? ⟨gb234,1,none⟩ = some (.int .i8 ((rd_T49 ((rd_T29 l0 0).f2) x5_2).f1)):=(kC_ BK234.out 1).trans rfl;have hcz76_2 : wr.cell? ⟨gb234,2,none⟩ = some (.int .i8 ((rd_T49 ((rd_T29 l0 0).f2) x5_2).f2)):=(kC_ BK234.out 2).trans rfl;have hcz76_3 : wr.cell? ⟨gb234,3,none⟩ = some (.int .i8 ((rd_T49 ((rd_T29 l0 0).f2) x5_2).f3)):=(kC_ BK234.out 3).trans rfl;have hfz76_0:=kF_ BK234.out 0;have hfz76_1:=kF_ BK234.out 1;have hfz76_2:=kF_ BK234.out 2;have hfz76_3:=kF_ BK234.out 3
                  go_wp2
                  go_roundg k5
                  case measure=>have:=HJ1.out;have:=HK2.out;have:=HJ17.out;have:=HK4.out;have:=HK5.out;omega
                  case rel=>exact ⟨(IntKind.i8.wrap (x7_4 + 1)),(x220000_5),(x221000_5),(by first|rfl|(simp;done)|(simp [*];done)),H',⟨by have:=HJ1.out;have:=HK2.out;have:=HJ17.out;have:=HK4.out;have:=HK5.out;omega⟩,⟨by (with_reducible repeat (first|apply kN_|apply kD_|apply kA_));exact BK219.out⟩,⟨by (with_reducible repeat (first|apply kN_|apply kD_|apply kA_));exact BK220.out⟩,⟨by (with_reducible repeat (first|apply kN_|apply kD_|apply kA_));exact BK234.out⟩,⟨by repeat (first|(with_reducible first|exact HB.out|apply bA_|apply bN_|apply bD_|refine bS_ ?_ GE219.out|refine bS_ ?_ GE220.out|refine bS_ ?_ GE234.out)|exact HB.out)⟩⟩
              ·
               rw [if_neg c47] at H;have c47b0 : decide (x7_4 < (IntKind.i8.wrap (((rd_T49 ((rd_T29 l0 0).f2) x5_2).f1) + ((rd_T49 ((rd_T29 l0 0).f2) x5_2).f3)))) = false:=decide_eq_false c47;clear c47;have H':=am_ H;clear H;have hnb77:=NB234_219.out;have hnc77:=NB219_234.out;have hnb78:=NB234_220.out;have hnc78:=NB220_234.out;have hcz79_0 : wr.cell? ⟨gb234,0,none⟩ = some (.int .i8 ((rd_T49 ((rd_T29 l0 0).f2) x5_2).f0)):=(kC_ BK234.out 0).trans rfl;have hcz79_1 : wr.cell? ⟨gb234,1,none⟩ = some (.int .i8 ((rd_T49 ((rd_T29 l0 0).f2) x5_2).f1)):=(kC_ BK234.out 1).trans rfl;have hcz79_2 : wr.cell? ⟨gb234,2,none⟩ = some (.int .i8 ((rd_T49 ((rd_T29 l0 0).f2) x5_2).f2)):=(kC_ BK234.out 2).trans rfl;have hcz79_3 : wr.cell? ⟨gb234,3,none⟩ = some (.int .i8 ((rd_T49 ((rd_T29 l0 0).f2) x5_2).f3)):=(kC_ BK234.out 3).trans rfl;have hfz79_0:=kF_ BK234.out 0;have hfz79_1:=kF_ BK234.out 1;have hfz79_2:=kF_ BK234.out 2;have hfz79_3:=kF_ BK234.out 3
               go_wp2
               go_roundg k4
               case measure=>have:=HJ1.out;have:=HK2.out;have:=HJ17.out;have:=HK4.out;omega
               case rel=>exact ⟨(wrap64 (x5_2 + 1)),(x220000_4),(x221000_4),(by first|rfl|(simp;done)|(simp [*];done)),H',⟨by have:=HJ1.out;have:=HK2.out;have:=HJ17.out;have:=HK4.out;omega⟩,⟨by (with_reducible repeat (first|apply kN_|apply kD_|apply kA_));exact BK219.out⟩,⟨by (with_reducible repeat (first|apply kN_|apply kD_|apply kA_));exact BK220.out⟩,⟨by repeat (first|(with_reducible first|exact HB.out|apply bA_|apply bN_|apply bD_|refine bS_ ?_ GE219.out|refine bS_ ?_ GE220.out|refine bS_ ?_ GE234.out)|exact HB.out)⟩⟩
        ·
         rw [if_neg c17] at H;exact absurd H (by simp)
       ·
        rw [if_neg c16] at H;have c16b0 : decide (x5_2 < (((rd_T29 l0 0).f2).length : Int)) = false:=decide_eq_false c16;clear c16
        by_cases c80 : x221000_2.length = 144
        ·
         rw [if_pos c80] at H;have c80b0:=eq_true c80;have c80b1 : decide (x221000_2.length = 144) = true:=decide_eq_true c80;clear c80
         by_cases c81 : x220000_2.length = 144
         ·
          rw [if_pos c81] at H;have c81b0:=eq_true c81;have c81b1 : decide (x220000_2.length = 144) = true:=decide_eq_true c81;clear c81;simp only [Option.some.injEq,Prod.mk.injEq] at H;obtain ⟨rfl,rfl⟩:=H;have p229 : 0≤(0 : Int):=(by omega)
          have q229 : 0 < (l0.length : Int):=od_ (by first|(with_reducible assumption)|assumption);obtain ⟨ad229,A229_2,c229_2,e229,hx229_0,hx229_1,hx229_2,hl229_2,hi229_2⟩:=at_T29 HR0.out 0 p229 q229
          cases e229
          have qi229 : (0 < l0.length) = True:=eq_true (by omega);(try rw [show ((0 : Int)).toNat = 0 from rfl] at hx229_0);(try rw [show 0 * 3 = 0 from rfl] at hx229_0);(try rw [Addr.add_zero'] at hx229_0);(try rw [show ((0 : Int)).toNat = 0 from rfl] at hx229_1);(try rw [show 0 * 3 = 0 from rfl] at hx229_1);(try rw [Addr.add_zero'] at hx229_1);(try rw [show ((0 : Int)).toNat = 0 from rfl] at hx229_2);(try rw [show 0 * 3 = 0 from rfl] at hx229_2);(try rw [Addr.add_zero'] at hx229_2);replace hx229_0:=(HB.out.cell (bl_ w _ hx229_0)).trans hx229_0;replace hx229_1:=(HB.out.cell (bl_ w _ hx229_1)).trans hx229_1;replace hx229_2:=(HB.out.cell (bl_ w _ hx229_2)).trans hx229_2;have HR229_2:=am_ hi229_2;have HC229_2:=am_ hl229_2;clear hi229_2 hl229_2;replace p229:=eq_true p229;replace q229:=eq_true q229;have p230 : 0≤(0 : Int):=(by omega)
          have q230 : 0 < (l0.length : Int):=od_ (by first|(with_reducible assumption)|assumption);obtain ⟨ad230,A230_2,c230_2,e230,hx230_0,hx230_1,hx230_2,hl230_2,hi230_2⟩:=at_T29 HR0.out 0 p230 q230;obtain rfl : ad229 = ad230:=(by injection e230)
          have qi230 : (0 < l0.length) = True:=eq_true (by omega);(try rw [show ((0 : Int)).toNat = 0 from rfl] at hx230_0);(try rw [show 0 * 3 = 0 from rfl] at hx230_0);(try rw [Addr.add_zero'] at hx230_0);(try rw [show ((0 : Int)).toNat = 0 from rfl] at hx230_1);(try rw [show 0 * 3 = 0 from rfl] at hx230_1);(try rw [Addr.add_zero'] at hx230_1);(try rw [show ((0 : Int)).toNat = 0 from rfl] at hx230_2);(try rw [show 0 * 3 = 0 from rfl] at hx230_2);(try rw [Addr.add_zero'] at hx230_2);replace hx230_0:=(HB.out.cell (bl_ w _ hx230_0)).trans hx230_0;replace hx230_1:=(HB.out.cell (bl_ w _ hx230_1)).trans hx230_1;replace hx230_2:=(HB.out.cell (bl_ w _ hx230_2)).trans hx230_2;have HR230_2:=am_ hi230_2;have HC230_2:=am_ hl230_2;clear hi230_2 hl230_2;replace p230:=eq_true p230;replace q230:=eq_true q230;have ea_:=Option.some.inj (hx229_2.symm.trans hx230_2)
          injection ea_ with ea_ en_ ec_
          subst ea_;subst ec_;clear en_
          go_wp2_with (first|((with_reducible refine gate_dst (N:=108) rfl ?_);(try (refine gate_guard (by rfl) ?_;dsimp only));refine arr_load (p:=4) (n:=144) (k:=.i64) (g:=gb220) (l:=x221000_2) ?hg (N:=108) ?hd (t:=91) ?ho ?hp BK220.out Try.underlying91 (by kernel_rfl) (od_ (by first|(with_reducible assumption)|assumption)) ?_;(case hd=>rfl);(case hg=>rfl);(case ho=>rfl);(case hp=>rfl))|((with_reducible refine gate_store (t:=91) (p:=2) rfl ?_);refine arr_store (p:=2) (v:=?vv_w82) (n:=144) (k:=.i64) (g:=gb219) (l:=x220000_2) (l2:=x221000_2) ?hg ?hn (t:=91) ?ho ?hp ?hv BK219.out (by kernel_rfl) (od_ (by first|(with_reducible assumption)|assumption)) (od_ (by first|(with_reducible assumption)|assumption)) ?_;(case ho=>rfl);(case hg=>rfl);(case hn=>rfl);(case hp=>rfl);(case hv=>rfl);intro w82 hg hx;have n0_:=am_ (hx);have n1_:=am_ (blk_grown (g:=gb220) (o:=.cells (arrC .i64 x221000_2) 91 (0,0)) BK220.out hg (fun e_=>NB220_219.out (Option.some.inj e_)));have n2_:=am_ (Below.grown HB.out hg (bZ_ HB.out) (fun k_ e_=>by cases e_;exact GE219.out));clear BK219;clear BK220;clear HB;have BK219:=n0_;have BK220:=n1_;have HB:=n2_;clear n0_ n1_ n2_;clear hg hx))
          refine bodyPost_ret (results_ct rfl _ _ gb219 91 (arrC .i64 x221000_2) (0,0) _ rfl BK219.out Try.underlying91 rfl (by first|(rw [arrC_size,(od_ (by first|(with_reducible assumption)|assumption) : x221000_2.length = 144)];kernel_rfl)|kernel_rfl)) rfl ?_;exact ⟨by first|rfl|(simp [errW_none,errW_some] <;> rfl)|(simp [*,errW_none,errW_some] <;> rfl),by repeat (first|(with_reducible first|exact HB.out|apply bA_|apply bN_|apply bD_|refine bS_ ?_ GE219.out|refine bS_ ?_ GE220.out)|exact HB.out)⟩
         ·
          rw [if_neg c81] at H;exact absurd H (by simp)
        ·
         rw [if_neg c80] at H;exact absurd H (by simp)
      ·
       rw [if_neg c15] at H;exact absurd H (by simp)
end Go.Proofs.Ytjadgmafgkoanaa.Q
