-- Trimmed by a program.
import Derived.Test.YtjadgmafgkoanaaXQ0
import Derived.Test.YtjadgmafgkoanaaXQ7
import Derived.Test.YtjadgmafgkoanaaXQ2
import Derived.Test.YtjadgmafgkoanaaXQ5
import Derived.Shelf.SlSortCmp.NoneTotal
import Derived.Test.YtjadgmafgkoanaaXQWs
namespace Go.Proofs.Ytjadgmafgkoanaa.Q
open RowKit YtjadgmafgkoanaaW.PrintWords YtjadgmafgkoanaaW.PrintLast YtjadgmafgkoanaaW.PrintMore
attribute [local go_sem] max2_int min2_int max_two min_two max_three min_three max_four min_four
set_option linter.unusedVariables false
set_option linter.unusedSimpArgs false
mutual
def spec_FillWith.j0 : Nat → Int → Int → Int → Int → Int → List (S49) → Option (Int × Int × (List (S49)) × Int × Int)
 | 0,_,_,_,_,_,_=>none
 | k + 1,x1,x2,x9,x811000,x811001,x811002=>if x9 = 0 then ((some (([] : List (S49)) : List (S49))).bind fun y816=>(if y816.length + x811002.length < 35184372088832 then (spec_FillWith.l0 k x1 x2 0 x811000 x811001 (y816 ++ x811002)) else (none))) else (some (0,0,([] : List (S49)),0,x9))
def spec_FillWith.l0 : Nat → Int → Int → Int → Int → Int → List (S49) → Option (Int × Int × (List (S49)) × Int × Int)
 | 0,_,_,_,_,_,_=>none
 | k + 1,x1,x2,x11,x823000,x823001,x823002=>if (x823002.length : Int) < 60 then ((spec_l01Place.f k [(⟨x823000,x823001,x823002⟩ : S29)] x1 x2).bind fun bt823=>(if bt823.2.2.2.2 = true then ((spec_l01Put.f k [(⟨x823000,x823001,x823002⟩ : S29)] bt823.1 bt823.2.1 bt823.2.2.1 bt823.2.2.2.1).bind fun bt829=>(spec_FillWith.l0 k x1 x2 (wrap64 (x11 + 1)) bt829.1 bt829.2.1 bt829.2.2)) else (some (x823000,x823001,x823002,x11,0)))) else (some (x823000,x823001,x823002,x11,0))
end
def spec_FillWith.f (k : Nat) (a0_0 : Int) (a0_1 : Int) (l0_2 : List (S49)) (a1 : Int) (a2 : Int) : Option (Int × Int × (List (S49)) × Int × Int) := (spec_l01Edge.f a1).bind fun t812 => (if t812 = true then ((spec_l01Edge.f a2).bind fun t813 => ((spec_l01Told.f k [(⟨a0_0, a0_1, l0_2⟩ : S29)] t813).bind fun t814 => (spec_FillWith.j0 k a1 a2 t814 a0_0 a0_1 l0_2))) else ((spec_l01Told.f k [(⟨a0_0, a0_1, l0_2⟩ : S29)] false).bind fun t815 => (spec_FillWith.j0 k a1 a2 t815 a0_0 a0_1 l0_2)))
theorem spec_FillWith.mono_l : ∀ k, (∀ y0 y1 y2 y3 y4 y5, LeO (spec_FillWith.j0 k y0 y1 y2 y3 y4 y5) (spec_FillWith.j0 (k + 1) y0 y1 y2 y3 y4 y5)) ∧ (∀ y0 y1 y2 y3 y4 y5, LeO (spec_FillWith.l0 k y0 y1 y2 y3 y4 y5) (spec_FillWith.l0 (k + 1) y0 y1 y2 y3 y4 y5))
 | 0=>⟨fun _ _ _ _ _ _ r h=>by simp [spec_FillWith.j0] at h,fun _ _ _ _ _ _ r h=>by simp [spec_FillWith.l0] at h⟩
 | k + 1=>by
  obtain ⟨ih0,ih1⟩:=spec_FillWith.mono_l k;refine ⟨?_,?_⟩
  ·
   intro y0 y1 y2 y3 y4 y5
   unfold spec_FillWith.j0
   repeat' first
   | (with_reducible exact ih0 _ _ _ _ _ _)
   | (with_reducible exact ih1 _ _ _ _ _ _)
   | (with_reducible exact spec_l01Place.mono _ _ _ _)
   | (with_reducible exact spec_l01Put.mono _ _ _ _ _ _)
   | (with_reducible exact spec_l01Told.mono _ _ _)
   | (with_reducible exact LeO.refl _)
   | (with_reducible exact LeO.none _)
   | (with_reducible refine LeO.ite ?_ ?_)
   | (with_reducible refine LeO.bind ?_ (fun _=>?_))
   | exact ih0 _ _ _ _ _ _
   | exact ih1 _ _ _ _ _ _
   | exact spec_l01Place.mono _ _ _ _
   | exact spec_l01Put.mono _ _ _ _ _ _
   | exact spec_l01Told.mono _ _ _
   | exact LeO.none _
   | refine LeO.ite ?_ ?_
   | refine LeO.bind ?_ (fun _=>?_)
  ·
   intro y0 y1 y2 y3 y4 y5
   unfold spec_FillWith.l0
   repeat' first
   | (with_reducible exact ih0 _ _ _ _ _ _)
   | (with_reducible exact ih1 _ _ _ _ _ _)
   | (with_reducible exact spec_l01Place.mono _ _ _ _)
   | (with_reducible exact spec_l01Put.mono _ _ _ _ _ _)
   | (with_reducible exact spec_l01Told.mono _ _ _)
   | (with_reducible exact LeO.refl _)
   | (with_reducible exact LeO.none _)
   | (with_reducible refine LeO.ite ?_ ?_)
   | (with_reducible refine LeO.bind ?_ (fun _=>?_))
   | exact ih0 _ _ _ _ _ _
   | exact ih1 _ _ _ _ _ _
   | exact spec_l01Place.mono _ _ _ _
   | exact spec_l01Put.mono _ _ _ _ _ _
   | exact spec_l01Told.mono _ _ _
   | exact LeO.none _
   | refine LeO.ite ?_ ?_
   | refine LeO.bind ?_ (fun _=>?_)
theorem spec_FillWith.mono : ∀ a0 a1 a2 a3 a4 k, LeO (spec_FillWith.f k a0 a1 a2 a3 a4) (spec_FillWith.f (k + 1) a0 a1 a2 a3 a4) := by
 intro a0 a1 a2 a3 a4 k;obtain ⟨ih0,ih1⟩:=spec_FillWith.mono_l k
 unfold spec_FillWith.f
 repeat' first
   | (with_reducible exact ih0 _ _ _ _ _ _)
   | (with_reducible exact ih1 _ _ _ _ _ _)
   | (with_reducible exact spec_l01Place.mono _ _ _ _)
   | (with_reducible exact spec_l01Put.mono _ _ _ _ _ _)
   | (with_reducible exact spec_l01Told.mono _ _ _)
   | (with_reducible exact LeO.refl _)
   | (with_reducible exact LeO.none _)
   | (with_reducible refine LeO.ite ?_ ?_)
   | (with_reducible refine LeO.bind ?_ (fun _=>?_))
   | exact ih0 _ _ _ _ _ _
   | exact ih1 _ _ _ _ _ _
   | exact spec_l01Place.mono _ _ _ _
   | exact spec_l01Put.mono _ _ _ _ _ _
   | exact spec_l01Told.mono _ _ _
   | exact LeO.none _
   | refine LeO.ite ?_ ?_
   | refine LeO.bind ?_ (fun _=>?_)
def spec_FillWith.T4 : Bool × List (List Nat × List Nat) := (true, [([], []), ([0], [0]), ([], []), ([2], [2]), ([], []), ([], []), ([5], [5]), ([4, 6], [4, 6]), ([1, 3, 7], [1, 3, 7]), ([], []), ([9, 8, 7, 0, 1, 2, 3, 4, 5, 6, 7, 8, 9], [8, 9])])
def spec_FillWith.B4 : List Nat := [0, 1, 0, 4, 0, 0, 32, 112, 255, 0, 1023]
theorem spec_FillWith.tab4 : rtab .any (opsOf Try.f12 4) = spec_FillWith.T4 := by kernel_rfl
theorem spec_FillWith.bits4 : waitsOk spec_FillWith.T4.2 spec_FillWith.B4 = true := by kernel_rfl
set_option maxHeartbeats 8000000 in
set_option maxRecDepth 100000 in
theorem spec_FillWith.calls (k : Nat) (a0_0 : Int) (a0_1 : Int) (A0_2 : Option Addr) (c0_2 : Nat) (l0_2 : List (S49)) (a1 : Int) (a2 : Int) (r1 : Int) (r2 : Int) (r3 : List (S49)) (r4 : Int) (r5 : Int) (w : World) (hr0_2 : Kd.C k49 w A0_2 l0_2.length l0_2) (hc0_2 : l0_2.length ≤ c0_2) (h : spec_FillWith.f k a0_0 a0_1 l0_2 a1 a2 = some (r1, r2, r3, r4, r5)) :
  Calls Try.prog 12 #[.agg #[.int .i8 a0_0,.int .i8 a0_1,.slice A0_2 l0_2.length c0_2],.int .i64 a1,.int .i64 a2] w fun e w'=>∃ v2_ : Value,e = .returned (.tuple #[.agg #[.int .i8 r1,.int .i8 r2,v2_],.int .i64 r4,.int .i64 r5]) ∧ Kd.R k49 49 w' w.heap.size (fun _=>True) v2_ r3 ∧ Below w.heap.size w w':=by
 have hu29:=Try.underlying29;have hu49:=Try.underlying49;have HR0_2:=am_ hr0_2;have HC0_2:=am_ hc0_2;clear hr0_2 hc0_2;have HB:=am_ (Below.refl w.heap.size w);have H : ((spec_l01Edge.f a1).bind fun t812=>(if t812 = true then ((spec_l01Edge.f a2).bind fun t813=>((spec_l01Told.f k [(⟨a0_0,a0_1,l0_2⟩ : S29)] t813).bind fun t814=>(spec_FillWith.j0 k a1 a2 t814 a0_0 a0_1 l0_2))) else ((spec_l01Told.f k [(⟨a0_0,a0_1,l0_2⟩ : S29)] false).bind fun t815=>(spec_FillWith.j0 k a1 a2 t815 a0_0 a0_1 l0_2)))) = some (r1,r2,r3,r4,r5):=h;clear h;have HC4:=am_ H;clear H
 go_enter Try.func12,Try.ntmps12
 go_upto_region 1 with (first|((with_reducible refine gate_dst (N:=3) rfl ?_);refine box_event ?hg (N:=3) ?hd (cs:=#[.int .i8 a0_0,.int .i8 a0_1,.slice A0_2 l0_2.length c0_2]) (t:=29) ?hr ?_;(case hd=>rfl);(case hg=>rfl);(case hr=>first|(go_simp;done)|(go_simp;rfl));intro gb810 hg w5 hbox hb;have n0_:=am_ (bT_ (by exact HB.out) hb);have n1_:=am_ (hbox);have n2_:=am_ ((by rw [hg];exact (bZ_ (by exact HB.out)) : w.heap.size≤gb810));have n3_:=n2_;clear HB;have HB:=n0_;have BK810:=n1_;have GW810:=n2_;have GE810:=n3_;clear n0_ n1_ n2_ n3_;clear hb hbox hg)|((with_reducible refine gate_dst (N:=6) rfl ?_);refine box_event ?hg (N:=6) ?hd (cs:=#[.int .i8 0,.int .i8 0,.slice none 0 0]) (t:=29) ?hr ?_;(case hd=>rfl);(case hg=>rfl);(case hr=>first|(go_simp;done)|(go_simp;rfl));intro gb811 hg w6 hbox hb;have n0_:=am_ (kB_ (g:=gb810) (o:=.cells #[.int .i8 a0_0,.int .i8 a0_1,.slice A0_2 l0_2.length c0_2] 29 (0,0)) (by exact BK810.out) hb);have n1_:=am_ (bT_ (by exact HB.out) hb);have n2_:=am_ (hbox);have n3_:=am_ ((by rw [hg];exact (bZ_ (by exact HB.out)) : w.heap.size≤gb811));have n4_:=n3_;have n5_:=am_ ((by rw [hg];exact nL_ (kL_ (g:=gb810) (o:=.cells #[.int .i8 a0_0,.int .i8 a0_1,.slice A0_2 l0_2.length c0_2] 29 (0,0)) (by exact BK810.out)) : gb810 ≠ gb811));have n6_:=am_ ((by rw [hg];exact nG_ (kL_ (g:=gb810) (o:=.cells #[.int .i8 a0_0,.int .i8 a0_1,.slice A0_2 l0_2.length c0_2] 29 (0,0)) (by exact BK810.out)) : gb811 ≠ gb810));clear BK810;clear HB;have BK810:=n0_;have HB:=n1_;have BK811:=n2_;have GW811:=n3_;have GE811:=n4_;have NB810_811:=n5_;have NB811_810:=n6_;clear n0_ n1_ n2_ n3_ n4_ n5_ n6_;clear hb hbox hg))
 (try simp only [Act.put,z1_,z2_,z3_])
 go_cut [9] (fun v9 wc=>∃ (kq : Nat) (x9_3 : Int),v9 = .int .i64 x9_3 ∧ Aside0 (spec_FillWith.j0 kq a1 a2 x9_3 a0_0 a0_1 l0_2 = some (r1,r2,r3,r4,r5)) ∧ Aside0 (kq≤k) ∧ Aside0 (wc.heap[gb810]? = some (.cells #[.int .i8 a0_0,.int .i8 a0_1,(.slice A0_2 l0_2.length c0_2)] 29 (0,0))) ∧ Aside0 (wc.heap[gb811]? = some (.cells #[.int .i8 0,.int .i8 0,(.slice none 0 0)] 29 (0,0))) ∧ Aside0 (Below w.heap.size w wc))
 case first =>
  have H:=HC4.out;clear HC4;replace H:=Option.bind_eq_some_iff.mp H;obtain ⟨t812,A70,H⟩:=H;replace H : (if t812 = true then ((spec_l01Edge.f a2).bind fun t813=>((spec_l01Told.f k [(⟨a0_0,a0_1,l0_2⟩ : S29)] t813).bind fun t814=>(spec_FillWith.j0 k a1 a2 t814 a0_0 a0_1 l0_2))) else ((spec_l01Told.f k [(⟨a0_0,a0_1,l0_2⟩ : S29)] false).bind fun t815=>(spec_FillWith.j0 k a1 a2 t815 a0_0 a0_1 l0_2))) = some (r1,r2,r3,r4,r5):=H;have A7:=am_ A70;clear A70
  by_cases c8 : t812 = true
  ·
   subst c8;have H1 : ((spec_l01Edge.f a2).bind fun t813=>((spec_l01Told.f k [(⟨a0_0,a0_1,l0_2⟩ : S29)] t813).bind fun t814=>(spec_FillWith.j0 k a1 a2 t814 a0_0 a0_1 l0_2))) = some (r1,r2,r3,r4,r5):=by rw [if_pos rfl] at H;exact H
   clear H;have H:=H1;clear H1;replace H:=Option.bind_eq_some_iff.mp H;obtain ⟨t813,A90,H⟩:=H;replace H : ((spec_l01Told.f k [(⟨a0_0,a0_1,l0_2⟩ : S29)] t813).bind fun t814=>(spec_FillWith.j0 k a1 a2 t814 a0_0 a0_1 l0_2)) = some (r1,r2,r3,r4,r5):=H;have A9:=am_ A90;clear A90;replace H:=Option.bind_eq_some_iff.mp H;obtain ⟨t814,A100,H⟩:=H;replace H : (spec_FillWith.j0 k a1 a2 t814 a0_0 a0_1 l0_2) = some (r1,r2,r3,r4,r5):=H;have A10:=am_ A100;clear A100;have H':=am_ H;clear H
   go_wp2_with (first|((with_reducible refine gate_callee (f:=45) rfl ?_);refine goesL_ (some 15) rfl rfl Try.func45 (by kernel_rfl) rfl #[.int .i64 a1] rfl (by (try simp only [List.map_toArray,List.map_cons,List.map_nil]);first|done|rfl|(simp only [List.length_drop,List.length_take];rfl)) ?_;(with_reducible refine (spec_l01Edge.calls a1 true _ A7.out).mono ?_);rintro e w' ⟨rfl,⟨nd,rfl⟩⟩;refine ⟨_,rfl,?_⟩)|(go_at_call 45;(with_reducible refine (spec_l01Edge.calls a2 t813 _ A9.out).mono ?_);rintro e w' ⟨rfl,⟨nd,rfl⟩⟩)|((with_reducible refine gate_callee (f:=44) rfl ?_);refine goesL_ (some 20) rfl rfl Try.func44 (by kernel_rfl) rfl #[.pointer (some ⟨gb810,0,none⟩),.bool t813] rfl (by (try simp only [List.map_toArray,List.map_cons,List.map_nil]);first|done|rfl|(simp only [List.length_drop,List.length_take];rfl)) ?_;(with_reducible refine (spec_l01Told.calls k _ 1 [(⟨a0_0,a0_1,l0_2⟩ : S29)] t813 t814 _ ?side1 ?side2 A10.out).mono ?_);(case side1=>exact Kd.C_one_ (by exact BK810.out) (k29_mk _ _ (by exact HC0_2.out) (by repeat (first|exact (cB_ HR0_2.out (by repeat (first|(with_reducible first|exact HB.out|apply bA_|apply bN_|apply bD_|refine bS_ ?_ GE810.out|refine bS_ ?_ GE811.out)|exact HB.out)))|(with_reducible refine Kd.C_alloc ?_ _)|(with_reducible refine Kd.C_drewN ?_ _)|(with_reducible refine Kd.C_drew ?_)))));(case side2=>exact Nat.le_refl _);rintro e w11 ⟨rfl,hb⟩;refine ⟨_,rfl,?_⟩;replace BK810:=am_ (kB_ (g:=gb810) (o:=.cells #[.int .i8 a0_0,.int .i8 a0_1,.slice A0_2 l0_2.length c0_2] 29 (0,0)) (by exact BK810.out) hb);replace BK811:=am_ (kB_ (g:=gb811) (o:=.cells #[.int .i8 0,.int .i8 0,.slice none 0 0] 29 (0,0)) (by exact BK811.out) hb);replace HB:=am_ (bT_ (by repeat (first|(with_reducible first|exact HB.out|apply bA_|apply bN_|apply bD_|refine bS_ ?_ GE810.out|refine bS_ ?_ GE811.out)|exact HB.out)) hb);(try clear hb hb2 hk hi)))
   go_meet
   case rel=>exact ⟨_,(t814),(by first|rfl|(simp;done)|(simp [*];done)),H',⟨by first|omega|exact Nat.le_refl _⟩,⟨by (with_reducible repeat (first|apply kN_|apply kD_|apply kA_));exact BK810.out⟩,⟨by (with_reducible repeat (first|apply kN_|apply kD_|apply kA_));exact BK811.out⟩,⟨by repeat (first|(with_reducible first|exact HB.out|apply bA_|apply bN_|apply bD_|refine bS_ ?_ GE810.out|refine bS_ ?_ GE811.out)|exact HB.out)⟩⟩
  ·
   replace c8:=Bool.eq_false_iff.mpr c8;subst c8;have H1 : ((spec_l01Told.f k [(⟨a0_0,a0_1,l0_2⟩ : S29)] false).bind fun t815=>(spec_FillWith.j0 k a1 a2 t815 a0_0 a0_1 l0_2)) = some (r1,r2,r3,r4,r5):=by rw [if_neg (show ¬ (false = true) by decide)] at H;exact H
   clear H;have H:=H1;clear H1;replace H:=Option.bind_eq_some_iff.mp H;obtain ⟨t815,A120,H⟩:=H;replace H : (spec_FillWith.j0 k a1 a2 t815 a0_0 a0_1 l0_2) = some (r1,r2,r3,r4,r5):=H;have A12:=am_ A120;clear A120;have H':=am_ H;clear H
   go_wp2_with (first|((with_reducible refine gate_callee (f:=45) rfl ?_);refine goesL_ (some 15) rfl rfl Try.func45 (by kernel_rfl) rfl #[.int .i64 a1] rfl (by (try simp only [List.map_toArray,List.map_cons,List.map_nil]);first|done|rfl|(simp only [List.length_drop,List.length_take];rfl)) ?_;(with_reducible refine (spec_l01Edge.calls a1 false _ A7.out).mono ?_);rintro e w' ⟨rfl,⟨nd,rfl⟩⟩;refine ⟨_,rfl,?_⟩)|((with_reducible refine gate_callee (f:=44) rfl ?_);refine goesL_ (some 20) rfl rfl Try.func44 (by kernel_rfl) rfl #[.pointer (some ⟨gb810,0,none⟩),.bool false] rfl (by (try simp only [List.map_toArray,List.map_cons,List.map_nil]);first|done|rfl|(simp only [List.length_drop,List.length_take];rfl)) ?_;(with_reducible refine (spec_l01Told.calls k _ 1 [(⟨a0_0,a0_1,l0_2⟩ : S29)] false t815 _ ?side1 ?side2 A12.out).mono ?_);(case side1=>exact Kd.C_one_ (by exact BK810.out) (k29_mk _ _ (by exact HC0_2.out) (by repeat (first|exact (cB_ HR0_2.out (by repeat (first|(with_reducible first|exact HB.out|apply bA_|apply bN_|apply bD_|refine bS_ ?_ GE810.out|refine bS_ ?_ GE811.out)|exact HB.out)))|(with_reducible refine Kd.C_alloc ?_ _)|(with_reducible refine Kd.C_drewN ?_ _)|(with_reducible refine Kd.C_drew ?_)))));(case side2=>exact Nat.le_refl _);rintro e w13 ⟨rfl,hb⟩;refine ⟨_,rfl,?_⟩;replace BK810:=am_ (kB_ (g:=gb810) (o:=.cells #[.int .i8 a0_0,.int .i8 a0_1,.slice A0_2 l0_2.length c0_2] 29 (0,0)) (by exact BK810.out) hb);replace BK811:=am_ (kB_ (g:=gb811) (o:=.cells #[.int .i8 0,.int .i8 0,.slice none 0 0] 29 (0,0)) (by exact BK811.out) hb);replace HB:=am_ (bT_ (by repeat (first|(with_reducible first|exact HB.out|apply bA_|apply bN_|apply bD_|refine bS_ ?_ GE810.out|refine bS_ ?_ GE811.out)|exact HB.out)) hb);(try clear hb hb2 hk hi)))
   go_meet
   case rel=>exact ⟨_,(t815),(by first|rfl|(simp;done)|(simp [*];done)),H',⟨by first|omega|exact Nat.le_refl _⟩,⟨by (with_reducible repeat (first|apply kN_|apply kD_|apply kA_));exact BK810.out⟩,⟨by (with_reducible repeat (first|apply kN_|apply kD_|apply kA_));exact BK811.out⟩,⟨by repeat (first|(with_reducible first|exact HB.out|apply bA_|apply bN_|apply bD_|refine bS_ ?_ GE810.out|refine bS_ ?_ GE811.out)|exact HB.out)⟩⟩
 case rest =>
  clear HC4;(try clear c1 p2 c4 c8 c12);obtain ⟨kq,x9_3,rfl,HA,HJ3,BK810,BK811,HB⟩:=hcut
  cases kq with
  | zero=>exact absurd HA.out (by simp [spec_FillWith.j0])
  | succ kj3 =>
   have H:=HA.out;clear HA;simp only [spec_FillWith.j0] at H
   by_cases c14 : x9_3 = 0
   ·
    rw [if_pos c14] at H;have c14b0 : (x9_3 == 0) = true:=beq_iff_eq.mpr c14;have c14b1 : (x9_3 != 0) = false:=bne_eq_false_iff_eq.mpr c14;clear c14;obtain ⟨y816,hy816⟩ : ∃ y_ : List (S49),y_ = (([] : List (S49))):=⟨_,rfl⟩
    replace H : (if y816.length + l0_2.length < 35184372088832 then (spec_FillWith.l0 kj3 a1 a2 0 a0_0 a0_1 (y816 ++ l0_2)) else (none)) = some (r1,r2,r3,r4,r5):=by first|(rw [hy816];with_reducible exact H)|(have H2_:=(Option.bind_some _ _).symm.trans H;rw [hy816];with_reducible exact H2_)|(have H2_:=(Option.bind_some _ _).symm.trans H;with_reducible exact H2_)|with_reducible exact H|(rw [hy816];exact H)|exact H
    have Ny816:=am_ hy816;clear hy816
    by_cases c15 : y816.length + l0_2.length < 35184372088832
    ·
     rw [if_pos c15] at H;have LMc15:=am_ c15;clear c15;obtain ⟨y819,hy819⟩ : ∃ y_ : List (S49),y_ = (y816 ++ l0_2):=⟨_,rfl⟩
     replace H : (spec_FillWith.l0 kj3 a1 a2 0 a0_0 a0_1 y819) = some (r1,r2,r3,r4,r5):=by first|(rw [hy819];with_reducible exact H)|(have H2_:=(Option.bind_some _ _).symm.trans H;rw [hy819];with_reducible exact H2_)|(have H2_:=(Option.bind_some _ _).symm.trans H;with_reducible exact H2_)|with_reducible exact H|(rw [hy819];exact H)|exact H
     have Ny819:=am_ hy819;clear hy819;have H':=am_ H;clear H
     try go_wp2
     replace BK810:=am_ (kD_ BK810.out);replace BK811:=am_ (kD_ BK811.out);replace HB:=am_ (bD_ HB.out);refine start_ (n:=11) (S:=fun w'=>w'.cell? ⟨gb810,0,none⟩ = some (.int .i8 a0_0) ∧ w'.cell? ⟨gb810,1,none⟩ = some (.int .i8 a0_1) ∧ w'.cell? ⟨gb810,2,none⟩ = some (.slice A0_2 l0_2.length c0_2)) (ds:=[]) (mB_ 11 0) (by kernel_rfl) rfl rfl ⟨(kC_ BK810.out 0).trans rfl,(kC_ BK810.out 1).trans rfl,(kC_ BK810.out 2).trans rfl⟩ (fun hHeld=>?_);refine with_tabW spec_FillWith.tab4 spec_FillWith.bits4 (fun HT_ HW_=>?_);generalize wc.drew = w16 at BK810 BK811 HB hHeld ⊢;refine pure_ (i:=0) (N:=some 25) (v:=?_) (a':=?_) (mB_ 11 1) rfl rfl (any_of HT_.out (by kernel_rfl)) (fun _ _ _ h=>h) (Or.inl ⟨by rfl,?_⟩) ?_ ?_;rotate_left;(· intro w';go_simp;with_reducible rfl);rotate_left;(· simp only [Act.put,z1_,z2_,z3_,i64_w,i32_w];rfl)
     refine pure_ (i:=2) (N:=some 27) (v:=?_) (a':=?_) (mB_ 11 5) rfl rfl (any_of HT_.out (by kernel_rfl)) (fun _ _ _ h=>h) (Or.inl ⟨by rfl,?_⟩) ?_ ?_;rotate_left;(· intro w';go_simp;with_reducible rfl);rotate_left;(· simp only [Act.put,z1_,z2_,z3_,i64_w,i32_w];rfl)
     refine pure_ (i:=5) (N:=some 30) (v:=?_) (a':=?_) (mB_ 11 37) rfl rfl (any_of HT_.out (by kernel_rfl)) (fun _ _ _ h=>h) (Or.inl ⟨by rfl,?_⟩) ?_ ?_;rotate_left;(· intro w';go_simp;with_reducible rfl);rotate_left;(· simp only [Act.put,z1_,z2_,z3_,i64_w,i32_w];rfl)
     refine take_ (i:=1) (N:=some 26) (v:=?_) (a':=?_) (mB_ 11 39) rfl rfl (take_ofW HT_.out HW_.out (by kernel_rfl)) (fun _ _ _ h=>h) (Or.inl ⟨by rfl,?_⟩) hHeld ?_ ?_;rotate_left;(· rintro w' ⟨s0,s1,s2⟩;go_simp;with_reducible rfl);rotate_left;(· simp only [Act.put,z1_,z2_,z3_,i64_w,i32_w];rfl)
     refine take_ (i:=3) (N:=some 28) (v:=?_) (a':=?_) (mB_ 11 47) rfl rfl (take_ofW HT_.out HW_.out (by kernel_rfl)) (fun _ _ _ h=>h) (Or.inl ⟨by rfl,?_⟩) hHeld ?_ ?_;rotate_left;(· rintro w' ⟨s0,s1,s2⟩;go_simp;with_reducible rfl);rotate_left;(· simp only [Act.put,z1_,z2_,z3_,i64_w,i32_w];rfl)
     refine take_ (i:=6) (N:=some 31) (v:=?_) (a':=?_) (mB_ 11 111) rfl rfl (take_ofW HT_.out HW_.out (by kernel_rfl)) (fun _ _ _ h=>h) (Or.inl ⟨by rfl,?_⟩) hHeld ?_ ?_;rotate_left;(· rintro w' ⟨s0,s1,s2⟩;go_simp;with_reducible rfl);rotate_left;(· simp only [Act.put,z1_,z2_,z3_,i64_w,i32_w];rfl)
     refine join_ (σ:=Value × Value × Nat) 1 (mB_ 11 1023) (fun s_=>[(29,s_.1),(32,s_.2.1),(10,.pointer (some ⟨s_.2.2,0,none⟩)),(33,.agg #[.int .i8 a0_0,.int .i8 a0_1,s_.2.1])]) (fun s_ w'=>(w'.cell? ⟨gb810,0,none⟩ = some (.int .i8 a0_0) ∧ w'.cell? ⟨gb810,1,none⟩ = some (.int .i8 a0_1) ∧ w'.cell? ⟨gb810,2,none⟩ = some (.slice A0_2 l0_2.length c0_2)) ∧ (Kd.R k49 49 w' w.heap.size (fun _=>True) s_.2.1 y819) ∧ (w'.heap[gb810]? = some (.cells #[.int .i8 a0_0,.int .i8 a0_1,.slice A0_2 l0_2.length c0_2] 29 (0,0))) ∧ (w'.heap[gb811]? = some (.cells #[.int .i8 0,.int .i8 0,.slice none 0 0] 29 (0,0))) ∧ (w'.heap[s_.2.2]? = some (.cells #[.int .i8 0,.int .i8 0,.slice none 0 0] 29 (0,0))) ∧ (w.heap.size≤s_.2.2) ∧ (w.heap.size≤s_.2.2) ∧ (gb810 ≠ s_.2.2) ∧ (s_.2.2 ≠ gb810) ∧ (gb811 ≠ s_.2.2) ∧ (s_.2.2 ≠ gb811) ∧ (Below w.heap.size w w')) ?_ ?_;rotate_left
     ·
      intro hCont;refine two_ (i:=4) (j:=9) (Ni:=some 29) (Nj:=some 10) (mB_ 11 127) (mB_ 11 623) rfl rfl rfl rfl (two_of HT_.out (by kernel_rfl)) (by decide) (by decide) (fun K hK=>?_) (fun K hK=>?_)
      ·
       skip
       refine Kd.R_lit_step k49 _ 49 ?hg (N:=29) ?hd (xs:=([] : List (S49))) (inner:=[]) (ok:=fun _=>True) (okp:=fun _=>True) ?hr ?hp (fun _ hk=>hk) trivial (Below.refl _ _) (Nat.le_refl _) (by simp) ?_;(case hd=>rfl);(case hg=>rfl);(case hr=>first|(go_simp;done)|(go_simp;rfl));(case hp=>exact (Reps.none _ _));intro v817 w17 ho18 hb hg_ hnew_;clear hg_ hnew_
       (first|rw [← Ny816.out] at ho18|(simp only [Int.reduceToNat] at ho18;rw [← Ny816.out] at ho18))
       have HO818:=am_ (Kd.R_lower ho18 (bZ_ (by exact HB.out)));replace BK810:=am_ (kB_ (g:=gb810) (o:=.cells #[.int .i8 a0_0,.int .i8 a0_1,.slice A0_2 l0_2.length c0_2] 29 (0,0)) (by exact BK810.out) hb);replace BK811:=am_ (kB_ (g:=gb811) (o:=.cells #[.int .i8 0,.int .i8 0,.slice none 0 0] 29 (0,0)) (by exact BK811.out) hb);replace HB:=am_ (bT_ (by exact HB.out) hb);clear hb ho18;refine hK.out _ _ ⟨(kC_ BK810.out 0).trans rfl,(kC_ BK810.out 1).trans rfl,(kC_ BK810.out 2).trans rfl⟩ (fun hHeld=>?_);clear hK K;refine norm_ (a':=?_) ?_ ?_;rotate_left
       · show Act.put _ (some 29) _ = _;simp only [Act.put,z1_,z2_,z3_,i64_w,i32_w];rfl
       refine two_ (i:=7) (j:=9) (Ni:=some 32) (Nj:=some 10) (mB_ 11 255) (mB_ 11 639) rfl rfl rfl rfl (two_of HT_.out (by kernel_rfl)) (by decide) (by decide) (fun K hK=>?_) (fun K hK=>?_)
       ·
        skip
        refine Kd.R_append_rows_step k49 (w0:=w) w.heap.size (by rfl) (.tmp 29) (.tmp 31) 27 49 (.agg #[(.int .i8 0),(.int .i8 0),(.int .i8 0),(.int .i8 0)]) 4 rfl Try.underlying27 info49 rfl (by decide) (by omega) v817 y816 l0_2 _ _ _ (fun _=>True) (fun _=>False) rfl rfl ?aO ?aR (fun _ _ h=>h) (fun _ h=>h.elim) ?aF ?aB ?aS ?aL ?_
        (case aR=>repeat (first|exact (cB_ HR0_2.out HB.out)|(with_reducible refine Kd.C_alloc ?_ _)|(with_reducible refine Kd.C_drewN ?_ _)|(with_reducible refine Kd.C_drew ?_)))
        (case aB=>exact (by exact HB.out))
        (case aF=>exact (fun _ _=>trivial))
        (case aO=>exact (by exact HO818.out))
        (case aS=>exact (bZ_ (by exact HB.out)))
        (case aL=>have:=LMc15.out;omega)
        intro v820 w19 ho hb hg hat;rw [← Ny819.out] at ho;have n0_:=am_ (blk_grown (g:=gb810) (o:=.cells #[.int .i8 a0_0,.int .i8 a0_1,.slice A0_2 l0_2.length c0_2] 29 (0,0)) (by exact BK810.out) hg (Kd.R_ne HO818.out BK810.out (by decide)));have n1_:=am_ (blk_grown (g:=gb811) (o:=.cells #[.int .i8 0,.int .i8 0,.slice none 0 0] 29 (0,0)) (by exact BK811.out) hg (Kd.R_ne HO818.out BK811.out (by decide)));have n2_:=am_ (hb);have n3_:=am_ (ho);clear BK810;clear BK811;clear HB;clear HO818;have BK810:=n0_;have BK811:=n1_;have HB:=n2_;have HO821:=n3_;clear n0_ n1_ n2_ n3_;clear ho hb hg hat;obtain ⟨Ao20,co20,eo20⟩:=Kd.R_slice HO821.out
        (first|subst eo20|(injection eo20 with f1_ f2_ f3_;have f4_:=f1_.symm;have f5_:=f3_.symm;clear f1_ f2_ f3_;subst f4_;subst f5_))
        refine hK.out _ _ ⟨(kC_ BK810.out 0).trans rfl,(kC_ BK810.out 1).trans rfl,(kC_ BK810.out 2).trans rfl⟩ (fun hHeld=>?_);clear hK K;refine norm_ (a':=?_) ?_ ?_;rotate_left
        · show Act.put _ (some 32) _ = _;simp only [Act.put,z1_,z2_,z3_,i64_w,i32_w];rfl
        refine pure_ (i:=8) (N:=some 33) (v:=?_) (a':=?_) (mB_ 11 511) rfl rfl (any_of HT_.out (by kernel_rfl)) (fun _ _ _ h=>h) (Or.inl ⟨by rfl,?_⟩) ?_ ?_;rotate_left;(· intro w';go_simp;with_reducible rfl);rotate_left;(· simp only [Act.put,z1_,z2_,z3_,i64_w,i32_w];rfl)
        refine one_ (i:=9) (N:=some 10) (mB_ 11 1023) rfl rfl (one_of HT_.out (by kernel_rfl)) (by decide) (fun K hK=>?_);refine box_step ?hg (N:=10) ?hd (cs:=#[.int .i8 0,.int .i8 0,.slice none 0 0]) (t:=29) ?hr ?_;(case hd=>rfl);(case hg=>rfl);(case hr=>first|(go_simp;done)|(go_simp;rfl));intro gb822 hg w21 hbox hb;have n0_:=am_ (Kd.R_below (by exact HO821.out) hb);have n1_:=am_ (kB_ (g:=gb810) (o:=.cells #[.int .i8 a0_0,.int .i8 a0_1,.slice A0_2 l0_2.length c0_2] 29 (0,0)) (by exact BK810.out) hb);have n2_:=am_ (kB_ (g:=gb811) (o:=.cells #[.int .i8 0,.int .i8 0,.slice none 0 0] 29 (0,0)) (by exact BK811.out) hb);have n3_:=am_ (bT_ (by exact HB.out) hb);have n4_:=am_ (hbox);have n5_:=am_ ((by rw [hg];exact (bZ_ (by exact HB.out)) : w.heap.size≤gb822));have n6_:=am_ ((by rw [hg];exact (bZ_ (by exact HB.out)) : w.heap.size≤gb822));have n7_:=am_ ((by rw [hg];exact nL_ (kL_ (g:=gb810) (o:=.cells #[.int .i8 a0_0,.int .i8 a0_1,.slice A0_2 l0_2.length c0_2] 29 (0,0)) (by exact BK810.out)) : gb810 ≠ gb822));have n8_:=am_ ((by rw [hg];exact nG_ (kL_ (g:=gb810) (o:=.cells #[.int .i8 a0_0,.int .i8 a0_1,.slice A0_2 l0_2.length c0_2] 29 (0,0)) (by exact BK810.out)) : gb822 ≠ gb810));have n9_:=am_ ((by rw [hg];exact nL_ (kL_ (g:=gb811) (o:=.cells #[.int .i8 0,.int .i8 0,.slice none 0 0] 29 (0,0)) (by exact BK811.out)) : gb811 ≠ gb822));have n10_:=am_ ((by rw [hg];exact nG_ (kL_ (g:=gb811) (o:=.cells #[.int .i8 0,.int .i8 0,.slice none 0 0] 29 (0,0)) (by exact BK811.out)) : gb822 ≠ gb811));clear HO821;clear BK810;clear BK811;clear HB;have HO821:=n0_;have BK810:=n1_;have BK811:=n2_;have HB:=n3_;have BK822:=n4_;have GW822:=n5_;have GE822:=n6_;have NB810_822:=n7_;have NB822_810:=n8_;have NB811_822:=n9_;have NB822_811:=n10_;clear n0_ n1_ n2_ n3_ n4_ n5_ n6_ n7_ n8_ n9_ n10_;clear hb hbox hg;refine hK.out _ _ ⟨(kC_ BK810.out 0).trans rfl,(kC_ BK810.out 1).trans rfl,(kC_ BK810.out 2).trans rfl⟩ (fun hHeld=>?_);clear hK K;refine norm_ (a':=?_) ?_ ?_;rotate_left
        · show Act.put _ (some 10) _ = _;simp only [Act.put,z1_,z2_,z3_,i64_w,i32_w];rfl
        exact norm_ (by simp only [putAll,Act.put,z1_,z2_,z3_]) (hCont (v817,.slice Ao20 y819.length co20,gb822) _ ⟨hHeld,(by exact HO821.out),(by exact BK810.out),(by exact BK811.out),(by exact BK822.out),GW822.out,GE822.out,NB810_822.out,NB822_810.out,NB811_822.out,NB822_811.out,(by exact HB.out)⟩)
       ·
        skip
        refine box_step ?hg (N:=10) ?hd (cs:=#[.int .i8 0,.int .i8 0,.slice none 0 0]) (t:=29) ?hr ?_;(case hd=>rfl);(case hg=>rfl);(case hr=>first|(go_simp;done)|(go_simp;rfl));intro gb822 hg w19 hbox hb;have n0_:=am_ (Kd.R_below (by exact HO818.out) hb);have n1_:=am_ (kB_ (g:=gb810) (o:=.cells #[.int .i8 a0_0,.int .i8 a0_1,.slice A0_2 l0_2.length c0_2] 29 (0,0)) (by exact BK810.out) hb);have n2_:=am_ (kB_ (g:=gb811) (o:=.cells #[.int .i8 0,.int .i8 0,.slice none 0 0] 29 (0,0)) (by exact BK811.out) hb);have n3_:=am_ (bT_ (by exact HB.out) hb);have n4_:=am_ (hbox);have n5_:=am_ ((by rw [hg];exact (bZ_ (by exact HB.out)) : w.heap.size≤gb822));have n6_:=am_ ((by rw [hg];exact (bZ_ (by exact HB.out)) : w.heap.size≤gb822));have n7_:=am_ ((by rw [hg];exact nL_ (kL_ (g:=gb810) (o:=.cells #[.int .i8 a0_0,.int .i8 a0_1,.slice A0_2 l0_2.length c0_2] 29 (0,0)) (by exact BK810.out)) : gb810 ≠ gb822));have n8_:=am_ ((by rw [hg];exact nG_ (kL_ (g:=gb810) (o:=.cells #[.int .i8 a0_0,.int .i8 a0_1,.slice A0_2 l0_2.length c0_2] 29 (0,0)) (by exact BK810.out)) : gb822 ≠ gb810));have n9_:=am_ ((by rw [hg];exact nL_ (kL_ (g:=gb811) (o:=.cells #[.int .i8 0,.int .i8 0,.slice none 0 0] 29 (0,0)) (by exact BK811.out)) : gb811 ≠ gb822));have n10_:=am_ ((by rw [hg];exact nG_ (kL_ (g:=gb811) (o:=.cells #[.int .i8 0,.int .i8 0,.slice none 0 0] 29 (0,0)) (by exact BK811.out)) : gb822 ≠ gb811));clear HO818;clear BK810;clear BK811;clear HB;have HO818:=n0_;have BK810:=n1_;have BK811:=n2_;have HB:=n3_;have BK822:=n4_;have GW822:=n5_;have GE822:=n6_;have NB810_822:=n7_;have NB822_810:=n8_;have NB811_822:=n9_;have NB822_811:=n10_;clear n0_ n1_ n2_ n3_ n4_ n5_ n6_ n7_ n8_ n9_ n10_;clear hb hbox hg;refine hK.out _ _ ⟨(kC_ BK810.out 0).trans rfl,(kC_ BK810.out 1).trans rfl,(kC_ BK810.out 2).trans rfl⟩ (fun hHeld=>?_);clear hK K;refine norm_ (a':=?_) ?_ ?_;rotate_left
        · show Act.put _ (some 10) _ = _;simp only [Act.put,z1_,z2_,z3_,i64_w,i32_w];rfl
        refine one_ (i:=7) (N:=some 32) (mB_ 11 767) rfl rfl (one_of HT_.out (by kernel_rfl)) (by decide) (fun K hK=>?_);refine Kd.R_append_rows_step k49 (w0:=w) w.heap.size (by rfl) (.tmp 29) (.tmp 31) 27 49 (.agg #[(.int .i8 0),(.int .i8 0),(.int .i8 0),(.int .i8 0)]) 4 rfl Try.underlying27 info49 rfl (by decide) (by omega) v817 y816 l0_2 _ _ _ (fun _=>True) (fun _=>False) rfl rfl ?aO ?aR (fun _ _ h=>h) (fun _ h=>h.elim) ?aF ?aB ?aS ?aL ?_
        (case aR=>repeat (first|exact (cB_ HR0_2.out HB.out)|(with_reducible refine Kd.C_alloc ?_ _)|(with_reducible refine Kd.C_drewN ?_ _)|(with_reducible refine Kd.C_drew ?_)))
        (case aB=>exact (by exact HB.out))
        (case aF=>exact (fun _ _=>trivial))
        (case aO=>exact (by exact HO818.out))
        (case aS=>exact (bZ_ (by exact HB.out)))
        (case aL=>have:=LMc15.out;omega)
        intro v820 w20 ho hb hg hat;rw [← Ny819.out] at ho;have n0_:=am_ (blk_grown (g:=gb810) (o:=.cells #[.int .i8 a0_0,.int .i8 a0_1,.slice A0_2 l0_2.length c0_2] 29 (0,0)) (by exact BK810.out) hg (Kd.R_ne HO818.out BK810.out (by decide)));have n1_:=am_ (blk_grown (g:=gb811) (o:=.cells #[.int .i8 0,.int .i8 0,.slice none 0 0] 29 (0,0)) (by exact BK811.out) hg (Kd.R_ne HO818.out BK811.out (by decide)));have n2_:=am_ (blk_grown (g:=gb822) (o:=.cells #[.int .i8 0,.int .i8 0,.slice none 0 0] 29 (0,0)) (by exact BK822.out) hg (Kd.R_ne HO818.out BK822.out (by decide)));have n3_:=am_ (hb);have n4_:=am_ (ho);clear BK810;clear BK811;clear BK822;clear HB;clear HO818;have BK810:=n0_;have BK811:=n1_;have BK822:=n2_;have HB:=n3_;have HO821:=n4_;clear n0_ n1_ n2_ n3_ n4_;clear ho hb hg hat;obtain ⟨Ao21,co21,eo21⟩:=Kd.R_slice HO821.out
        (first|subst eo21|(injection eo21 with f1_ f2_ f3_;have f4_:=f1_.symm;have f5_:=f3_.symm;clear f1_ f2_ f3_;subst f4_;subst f5_))
        refine hK.out _ _ ⟨(kC_ BK810.out 0).trans rfl,(kC_ BK810.out 1).trans rfl,(kC_ BK810.out 2).trans rfl⟩ (fun hHeld=>?_);clear hK K;refine norm_ (a':=?_) ?_ ?_;rotate_left
        · show Act.put _ (some 32) _ = _;simp only [Act.put,z1_,z2_,z3_,i64_w,i32_w];rfl
        refine pure_ (i:=8) (N:=some 33) (v:=?_) (a':=?_) (mB_ 11 1023) rfl rfl (any_of HT_.out (by kernel_rfl)) (fun _ _ _ h=>h) (Or.inl ⟨by rfl,?_⟩) ?_ ?_;rotate_left;(· intro w';go_simp;with_reducible rfl);rotate_left;(· simp only [Act.put,z1_,z2_,z3_,i64_w,i32_w];rfl)
        exact norm_ (by simp only [putAll,Act.put,z1_,z2_,z3_]) (hCont (v817,.slice Ao21 y819.length co21,gb822) _ ⟨hHeld,(by exact HO821.out),(by exact BK810.out),(by exact BK811.out),(by exact BK822.out),GW822.out,GE822.out,NB810_822.out,NB822_810.out,NB811_822.out,NB822_811.out,(by exact HB.out)⟩)
      ·
       skip
       refine box_step ?hg (N:=10) ?hd (cs:=#[.int .i8 0,.int .i8 0,.slice none 0 0]) (t:=29) ?hr ?_;(case hd=>rfl);(case hg=>rfl);(case hr=>first|(go_simp;done)|(go_simp;rfl));intro gb822 hg w17 hbox hb;have n0_:=am_ (kB_ (g:=gb810) (o:=.cells #[.int .i8 a0_0,.int .i8 a0_1,.slice A0_2 l0_2.length c0_2] 29 (0,0)) (by exact BK810.out) hb);have n1_:=am_ (kB_ (g:=gb811) (o:=.cells #[.int .i8 0,.int .i8 0,.slice none 0 0] 29 (0,0)) (by exact BK811.out) hb);have n2_:=am_ (bT_ (by exact HB.out) hb);have n3_:=am_ (hbox);have n4_:=am_ ((by rw [hg];exact (bZ_ (by exact HB.out)) : w.heap.size≤gb822));have n5_:=am_ ((by rw [hg];exact (bZ_ (by exact HB.out)) : w.heap.size≤gb822));have n6_:=am_ ((by rw [hg];exact nL_ (kL_ (g:=gb810) (o:=.cells #[.int .i8 a0_0,.int .i8 a0_1,.slice A0_2 l0_2.length c0_2] 29 (0,0)) (by exact BK810.out)) : gb810 ≠ gb822));have n7_:=am_ ((by rw [hg];exact nG_ (kL_ (g:=gb810) (o:=.cells #[.int .i8 a0_0,.int .i8 a0_1,.slice A0_2 l0_2.length c0_2] 29 (0,0)) (by exact BK810.out)) : gb822 ≠ gb810));have n8_:=am_ ((by rw [hg];exact nL_ (kL_ (g:=gb811) (o:=.cells #[.int .i8 0,.int .i8 0,.slice none 0 0] 29 (0,0)) (by exact BK811.out)) : gb811 ≠ gb822));have n9_:=am_ ((by rw [hg];exact nG_ (kL_ (g:=gb811) (o:=.cells #[.int .i8 0,.int .i8 0,.slice none 0 0] 29 (0,0)) (by exact BK811.out)) : gb822 ≠ gb811));clear BK810;clear BK811;clear HB;have BK810:=n0_;have BK811:=n1_;have HB:=n2_;have BK822:=n3_;have GW822:=n4_;have GE822:=n5_;have NB810_822:=n6_;have NB822_810:=n7_;have NB811_822:=n8_;have NB822_811:=n9_;clear n0_ n1_ n2_ n3_ n4_ n5_ n6_ n7_ n8_ n9_;clear hb hbox hg;refine hK.out _ _ ⟨(kC_ BK810.out 0).trans rfl,(kC_ BK810.out 1).trans rfl,(kC_ BK810.out 2).trans rfl⟩ (fun hHeld=>?_);clear hK K;refine norm_ (a':=?_) ?_ ?_;rotate_left
       · show Act.put _ (some 10) _ = _;simp only [Act.put,z1_,z2_,z3_,i64_w,i32_w];rfl
       refine one_ (i:=4) (N:=some 29) (mB_ 11 639) rfl rfl (one_of HT_.out (by kernel_rfl)) (by decide) (fun K hK=>?_);refine Kd.R_lit_step k49 _ 49 ?hg (N:=29) ?hd (xs:=([] : List (S49))) (inner:=[]) (ok:=fun _=>True) (okp:=fun _=>True) ?hr ?hp (fun _ hk=>hk) trivial (Below.refl _ _) (Nat.le_refl _) (by simp) ?_;(case hd=>rfl);(case hg=>rfl);(case hr=>first|(go_simp;done)|(go_simp;rfl));(case hp=>exact (Reps.none _ _));intro v817 w18 ho19 hb hg_ hnew_;clear hg_ hnew_
       (first|rw [← Ny816.out] at ho19|(simp only [Int.reduceToNat] at ho19;rw [← Ny816.out] at ho19))
       have HO818:=am_ (Kd.R_lower ho19 (bZ_ (by exact HB.out)));replace BK810:=am_ (kB_ (g:=gb810) (o:=.cells #[.int .i8 a0_0,.int .i8 a0_1,.slice A0_2 l0_2.length c0_2] 29 (0,0)) (by exact BK810.out) hb);replace BK811:=am_ (kB_ (g:=gb811) (o:=.cells #[.int .i8 0,.int .i8 0,.slice none 0 0] 29 (0,0)) (by exact BK811.out) hb);replace BK822:=am_ (kB_ (g:=gb822) (o:=.cells #[.int .i8 0,.int .i8 0,.slice none 0 0] 29 (0,0)) (by exact BK822.out) hb);replace HB:=am_ (bT_ (by exact HB.out) hb);clear hb ho19;refine hK.out _ _ ⟨(kC_ BK810.out 0).trans rfl,(kC_ BK810.out 1).trans rfl,(kC_ BK810.out 2).trans rfl⟩ (fun hHeld=>?_);clear hK K;refine norm_ (a':=?_) ?_ ?_;rotate_left
       · show Act.put _ (some 29) _ = _;simp only [Act.put,z1_,z2_,z3_,i64_w,i32_w];rfl
       refine one_ (i:=7) (N:=some 32) (mB_ 11 767) rfl rfl (one_of HT_.out (by kernel_rfl)) (by decide) (fun K hK=>?_);refine Kd.R_append_rows_step k49 (w0:=w) w.heap.size (by rfl) (.tmp 29) (.tmp 31) 27 49 (.agg #[(.int .i8 0),(.int .i8 0),(.int .i8 0),(.int .i8 0)]) 4 rfl Try.underlying27 info49 rfl (by decide) (by omega) v817 y816 l0_2 _ _ _ (fun _=>True) (fun _=>False) rfl rfl ?aO ?aR (fun _ _ h=>h) (fun _ h=>h.elim) ?aF ?aB ?aS ?aL ?_
       (case aR=>repeat (first|exact (cB_ HR0_2.out HB.out)|(with_reducible refine Kd.C_alloc ?_ _)|(with_reducible refine Kd.C_drewN ?_ _)|(with_reducible refine Kd.C_drew ?_)))
       (case aB=>exact (by exact HB.out))
       (case aF=>exact (fun _ _=>trivial))
       (case aO=>exact (by exact HO818.out))
       (case aS=>exact (bZ_ (by exact HB.out)))
       (case aL=>have:=LMc15.out;omega)
       intro v820 w20 ho hb hg hat;rw [← Ny819.out] at ho;have n0_:=am_ (blk_grown (g:=gb810) (o:=.cells #[.int .i8 a0_0,.int .i8 a0_1,.slice A0_2 l0_2.length c0_2] 29 (0,0)) (by exact BK810.out) hg (Kd.R_ne HO818.out BK810.out (by decide)));have n1_:=am_ (blk_grown (g:=gb811) (o:=.cells #[.int .i8 0,.int .i8 0,.slice none 0 0] 29 (0,0)) (by exact BK811.out) hg (Kd.R_ne HO818.out BK811.out (by decide)));have n2_:=am_ (blk_grown (g:=gb822) (o:=.cells #[.int .i8 0,.int .i8 0,.slice none 0 0] 29 (0,0)) (by exact BK822.out) hg (Kd.R_ne HO818.out BK822.out (by decide)));have n3_:=am_ (hb);have n4_:=am_ (ho);clear BK810;clear BK811;clear BK822;clear HB;clear HO818;have BK810:=n0_;have BK811:=n1_;have BK822:=n2_;have HB:=n3_;have HO821:=n4_;clear n0_ n1_ n2_ n3_ n4_;clear ho hb hg hat;obtain ⟨Ao21,co21,eo21⟩:=Kd.R_slice HO821.out
       (first|subst eo21|(injection eo21 with f1_ f2_ f3_;have f4_:=f1_.symm;have f5_:=f3_.symm;clear f1_ f2_ f3_;subst f4_;subst f5_))
       refine hK.out _ _ ⟨(kC_ BK810.out 0).trans rfl,(kC_ BK810.out 1).trans rfl,(kC_ BK810.out 2).trans rfl⟩ (fun hHeld=>?_);clear hK K;refine norm_ (a':=?_) ?_ ?_;rotate_left
       · show Act.put _ (some 32) _ = _;simp only [Act.put,z1_,z2_,z3_,i64_w,i32_w];rfl
       refine pure_ (i:=8) (N:=some 33) (v:=?_) (a':=?_) (mB_ 11 1023) rfl rfl (any_of HT_.out (by kernel_rfl)) (fun _ _ _ h=>h) (Or.inl ⟨by rfl,?_⟩) ?_ ?_;rotate_left;(· intro w';go_simp;with_reducible rfl);rotate_left;(· simp only [Act.put,z1_,z2_,z3_,i64_w,i32_w];rfl)
       exact norm_ (by simp only [putAll,Act.put,z1_,z2_,z3_]) (hCont (v817,.slice Ao21 y819.length co21,gb822) _ ⟨hHeld,(by exact HO821.out),(by exact BK810.out),(by exact BK811.out),(by exact BK822.out),GW822.out,GE822.out,NB810_822.out,NB822_810.out,NB811_822.out,NB822_811.out,(by exact HB.out)⟩)
     rintro ⟨v817,v820,gb822⟩ w22 ⟨hS_,h0_,h1_,h2_,h3_,h4_,h5_,h6_,h7_,h8_,h9_,h10_⟩;have n0_ : Aside0 (Kd.R k49 49 w22 w.heap.size (fun _=>True) v820 y819):=⟨h0_⟩
     have n1_ : Aside0 (w22.heap[gb810]? = some (.cells #[.int .i8 a0_0,.int .i8 a0_1,.slice A0_2 l0_2.length c0_2] 29 (0,0))):=⟨h1_⟩
     have n2_ : Aside0 (w22.heap[gb811]? = some (.cells #[.int .i8 0,.int .i8 0,.slice none 0 0] 29 (0,0))):=⟨h2_⟩
     have n3_ : Aside0 (w22.heap[gb822]? = some (.cells #[.int .i8 0,.int .i8 0,.slice none 0 0] 29 (0,0))):=⟨h3_⟩
     have n4_ : Aside0 (w.heap.size≤gb822):=⟨h4_⟩
     have n5_ : Aside0 (w.heap.size≤gb822):=⟨h5_⟩
     have n6_ : Aside0 (gb810 ≠ gb822):=⟨h6_⟩
     have n7_ : Aside0 (gb822 ≠ gb810):=⟨h7_⟩
     have n8_ : Aside0 (gb811 ≠ gb822):=⟨h8_⟩
     have n9_ : Aside0 (gb822 ≠ gb811):=⟨h9_⟩
     have n10_ : Aside0 (Below w.heap.size w w22):=⟨h10_⟩
     clear BK810;clear BK811;clear HB;clear h0_ h1_ h2_ h3_ h4_ h5_ h6_ h7_ h8_ h9_ h10_;have HO821:=n0_;have BK810:=n1_;have BK811:=n2_;have BK822:=n3_;have GW822:=n4_;have GE822:=n5_;have NB810_822:=n6_;have NB822_810:=n7_;have NB811_822:=n8_;have NB822_811:=n9_;have HB:=n10_;clear n0_ n1_ n2_ n3_ n4_ n5_ n6_ n7_ n8_ n9_ n10_;have hHeld : w22.cell? ⟨gb810,0,none⟩ = some (.int .i8 a0_0) ∧ w22.cell? ⟨gb810,1,none⟩ = some (.int .i8 a0_1) ∧ w22.cell? ⟨gb810,2,none⟩ = some (.slice A0_2 l0_2.length c0_2):=hS_;obtain ⟨Ao23,co23,eo23⟩:=Kd.R_slice HO821.out
     (first|subst eo23|(injection eo23 with f1_ f2_ f3_;have f4_:=f1_.symm;have f5_:=f3_.symm;clear f1_ f2_ f3_;subst f4_;subst f5_))
     refine norm_ (a':=?_) ?_ ?_;rotate_left
     · simp only [putAll,Act.put,z1_,z2_,z3_];rfl
     refine one_ (i:=10) (N:=none) (mB_ 11 2047) rfl rfl (one_of HT_.out (by kernel_rfl)) (by decide) (fun K hK=>?_);have hs24 : w22.cell? ⟨gb822,0,none⟩ = some (.int .i8 0):=(kC_ BK822.out 0).trans rfl;have hfs24:=kF_ BK822.out 0;have hns24_0:=NB810_822.out;have hns24_1:=NB811_822.out;have hms24_0:=NB822_810.out;have hms24_1:=NB822_811.out;have hs25 : w22.cell? ⟨gb822,1,none⟩ = some (.int .i8 0):=(kC_ BK822.out 1).trans rfl;have hfs25:=kF_ BK822.out 1;have hns25_0:=NB810_822.out;have hns25_1:=NB811_822.out;have hms25_0:=NB822_810.out;have hms25_1:=NB822_811.out;have hs26 : w22.cell? ⟨gb822,2,none⟩ = some (.slice none 0 0):=(kC_ BK822.out 2).trans rfl;have hfs26:=kF_ BK822.out 2;have hns26_0:=NB810_822.out;have hns26_1:=NB811_822.out;have hms26_0:=NB822_810.out;have hms26_1:=NB822_811.out;refine skip_ (w1:=?_) (by rfl) rfl ?_ ?_;rotate_left
     · go_simp;rfl
     refine hK.out _ _ ⟨((cell_far (p:=⟨gb822,_,none⟩) NB810_822.out _).trans (((cell_far (p:=⟨gb822,_,none⟩) NB810_822.out _).trans (((cell_far (p:=⟨gb822,_,none⟩) NB810_822.out _).trans (hHeld.1)))))),((cell_far (p:=⟨gb822,_,none⟩) NB810_822.out _).trans (((cell_far (p:=⟨gb822,_,none⟩) NB810_822.out _).trans (((cell_far (p:=⟨gb822,_,none⟩) NB810_822.out _).trans (hHeld.2.1)))))),((cell_far (p:=⟨gb822,_,none⟩) NB810_822.out _).trans (((cell_far (p:=⟨gb822,_,none⟩) NB810_822.out _).trans (((cell_far (p:=⟨gb822,_,none⟩) NB810_822.out _).trans (hHeld.2.2))))))⟩ (fun hHeld=>?_);clear hK K;refine done_ (done_of HT_.out (by kernel_rfl)) ?_
     try go_wp2
     go_loopg [11] kj3 (fun kq v11 w'=>∃ (x11_2 : Int) (x823000_2 : Int) (x823001_2 : Int) (x823002_2 : List (S49)) (u823002 : Value),v11 = .int .i64 x11_2 ∧ Aside0 (spec_FillWith.l0 kq a1 a2 x11_2 x823000_2 x823001_2 x823002_2 = some (r1,r2,r3,r4,r5)) ∧ Aside0 (kq≤kj3) ∧ Aside0 (Kd.R k49 49 w' w.heap.size (fun _=>True) u823002 x823002_2) ∧ Aside0 (w'.heap[gb810]? = some (.cells #[.int .i8 a0_0,.int .i8 a0_1,(.slice A0_2 l0_2.length c0_2)] 29 (0,0))) ∧ Aside0 (w'.heap[gb811]? = some (.cells #[.int .i8 0,.int .i8 0,(.slice none 0 0)] 29 (0,0))) ∧ Aside0 (w'.heap[gb822]? = some (.cells #[.int .i8 x823000_2,.int .i8 x823001_2,u823002] 29 (0,0))) ∧ Aside0 (Below w.heap.size w w'))
     case atStart=>exact ⟨(0),(a0_0),(a0_1),(y819),(.slice Ao23 y819.length co23),(by first|rfl|(simp;done)|(simp [*];done)),H',⟨Nat.le_refl _⟩,⟨by (with_reducible repeat (first|apply Kd.R_alloc|apply Kd.R_drewN|apply Kd.R_drew));exact rM_ (Kd.R_far (p:=⟨gb822,2,none⟩) (Kd.R_far (p:=⟨gb822,1,none⟩) (Kd.R_far (p:=⟨gb822,0,none⟩) (Kd.R_types HO821.out BK822.out (by decide)) (fun _ hk=>hk.2) (.int .i8 a0_0)) (fun _ hk=>hk.2) (.int .i8 a0_1)) (fun _ hk=>hk.2) (.slice Ao23 y819.length co23)) (fun _ hk=>trivial)⟩,⟨by refine kX_ ?_ NB810_822.out _;refine kX_ ?_ NB810_822.out _;refine kX_ ?_ NB810_822.out _;exact BK810.out⟩,⟨by refine kX_ ?_ NB811_822.out _;refine kX_ ?_ NB811_822.out _;refine kX_ ?_ NB811_822.out _;exact BK811.out⟩,⟨by (with_reducible repeat (first|apply kN_|apply kD_|apply kA_));refine blk_put (cs:=#[.int .i8 a0_0,.int .i8 a0_1,.slice none 0 0]) ?_ 2 _ rfl;(with_reducible repeat (first|apply kN_|apply kD_|apply kA_));refine blk_put (cs:=#[.int .i8 a0_0,.int .i8 0,.slice none 0 0]) ?_ 1 _ rfl;(with_reducible repeat (first|apply kN_|apply kD_|apply kA_));refine blk_put (cs:=#[.int .i8 0,.int .i8 0,.slice none 0 0]) ?_ 0 _ rfl;(with_reducible repeat (first|apply kN_|apply kD_|apply kA_));exact BK822.out⟩,⟨by repeat (first|(with_reducible first|exact HB.out|apply bA_|apply bN_|apply bD_|refine bS_ ?_ GE810.out|refine bS_ ?_ GE811.out|refine bS_ ?_ GE822.out)|exact HB.out)⟩⟩
     case round =>
      clear H';(try clear c1 p2 c4 c8 c12 c14 c14b0 c14b1 c15 p2);obtain ⟨x11_2,x823000_2,x823001_2,x823002_2,u823002,rfl,HA,HK2,HO_823002,BK810,BK811,BK822,HB⟩:=hrel
      cases gk with
      | zero=>exact absurd HA.out (by simp [spec_FillWith.l0])
      | succ k2 =>
       have H:=HA.out;clear HA;simp only [spec_FillWith.l0] at H
       by_cases c27 : (x823002_2.length : Int) < 60
       ·
        rw [if_pos c27] at H;have c27b0 : decide ((x823002_2.length : Int) < 60) = true:=decide_eq_true c27;have c27b1 : decide (x823002_2.length < 60) = true:=decide_eq_true (by omega);clear c27;replace H:=Option.bind_eq_some_iff.mp H;obtain ⟨⟨t823,t824,t825,t826,t827⟩,A280,H⟩:=H;replace H : (if t827 = true then ((spec_l01Put.f k2 [(⟨x823000_2,x823001_2,x823002_2⟩ : S29)] t823 t824 t825 t826).bind fun bt829=>(spec_FillWith.l0 k2 a1 a2 (wrap64 (x11_2 + 1)) bt829.1 bt829.2.1 bt829.2.2)) else (some (x823000_2,x823001_2,x823002_2,x11_2,0))) = some (r1,r2,r3,r4,r5):=H;have A28:=am_ A280;clear A280
        by_cases c29 : t827 = true
        ·
         subst c29;have H1 : ((spec_l01Put.f k2 [(⟨x823000_2,x823001_2,x823002_2⟩ : S29)] t823 t824 t825 t826).bind fun bt829=>(spec_FillWith.l0 k2 a1 a2 (wrap64 (x11_2 + 1)) bt829.1 bt829.2.1 bt829.2.2)) = some (r1,r2,r3,r4,r5):=by rw [if_pos rfl] at H;exact H
         clear H;have H:=H1;clear H1;replace H:=Option.bind_eq_some_iff.mp H;obtain ⟨⟨t829,t830,t831⟩,A300,H⟩:=H;replace H : (spec_FillWith.l0 k2 a1 a2 (wrap64 (x11_2 + 1)) t829 t830 t831) = some (r1,r2,r3,r4,r5):=H;have A30:=am_ A300;clear A300;have H':=am_ H;clear H;have hnb31:=NB822_810.out;have hnc31:=NB810_822.out;have hnb32:=NB822_811.out;have hnc32:=NB811_822.out;have hcz33_0 : wr.cell? ⟨gb822,0,none⟩ = some (.int .i8 x823000_2):=(kC_ BK822.out 0).trans rfl;have hcz33_1 : wr.cell? ⟨gb822,1,none⟩ = some (.int .i8 x823001_2):=(kC_ BK822.out 1).trans rfl;have hcz33_2 : wr.cell? ⟨gb822,2,none⟩ = some (u823002):=(kC_ BK822.out 2).trans rfl;have hfz33_0:=kF_ BK822.out 0;have hfz33_1:=kF_ BK822.out 1;have hfz33_2:=kF_ BK822.out 2;obtain ⟨Ao34,co34,eo34⟩:=Kd.R_slice HO_823002.out;subst eo34
         go_wp2_with (first|((with_reducible refine gate_callee (f:=46) rfl ?_);refine goesL_ (some 41) rfl rfl Try.func46 (by kernel_rfl) rfl #[.pointer (some ⟨gb822,0,none⟩),.int .i64 a1,.int .i64 a2] rfl (by (try simp only [List.map_toArray,List.map_cons,List.map_nil]);first|done|rfl|(simp only [List.length_drop,List.length_take];rfl)) ?_;(with_reducible refine (spec_l01Place.calls k2 _ 1 [(⟨x823000_2,x823001_2,x823002_2⟩ : S29)] a1 a2 t823 t824 t825 t826 true _ ?side1 ?side2 A28.out).mono ?_);(case side1=>exact Kd.C_one_ (by exact BK822.out) (k29_mk _ _ (by exact (Kd.R_reads' HO_823002.out).2.1) (by repeat (first|exact (Kd.R_reads' HO_823002.out).2.2|(with_reducible refine Kd.C_alloc ?_ _)|(with_reducible refine Kd.C_drewN ?_ _)|(with_reducible refine Kd.C_drew ?_)))));(case side2=>exact Nat.le_refl _);rintro e w35 ⟨rfl,hb⟩;refine ⟨_,rfl,?_⟩;replace HO_823002:=am_ (Kd.R_below (by exact HO_823002.out) hb);replace BK810:=am_ (kB_ (g:=gb810) (o:=.cells #[.int .i8 a0_0,.int .i8 a0_1,.slice A0_2 l0_2.length c0_2] 29 (0,0)) (by exact BK810.out) hb);replace BK811:=am_ (kB_ (g:=gb811) (o:=.cells #[.int .i8 0,.int .i8 0,.slice none 0 0] 29 (0,0)) (by exact BK811.out) hb);replace BK822:=am_ (kB_ (g:=gb822) (o:=.cells #[.int .i8 x823000_2,.int .i8 x823001_2,.slice Ao34 x823002_2.length co34] 29 (0,0)) (by exact BK822.out) hb);replace HB:=am_ (bT_ (by exact HB.out) hb);(try clear hb hb2 hk hi))|((with_reducible refine gate_dst (N:=12) rfl ?_);refine box_event ?hg (N:=12) ?hd (cs:=#[.int .i8 0,.int .i8 0,.int .i8 0,.int .i8 0]) (t:=49) ?hr ?_;(case hd=>rfl);(case hg=>rfl);(case hr=>first|(go_simp;done)|(go_simp;rfl));intro gb828 hg w36 hbox hb;have n0_:=am_ (Kd.R_below (Kd.R_elderB (by exact HO_823002.out) gb828 (Nat.le_of_eq hg.symm)) hb);have n1_:=am_ (kB_ (g:=gb810) (o:=.cells #[.int .i8 a0_0,.int .i8 a0_1,.slice A0_2 l0_2.length c0_2] 29 (0,0)) (by exact BK810.out) hb);have n2_:=am_ (kB_ (g:=gb811) (o:=.cells #[.int .i8 0,.int .i8 0,.slice none 0 0] 29 (0,0)) (by exact BK811.out) hb);have n3_:=am_ (kB_ (g:=gb822) (o:=.cells #[.int .i8 x823000_2,.int .i8 x823001_2,.slice Ao34 x823002_2.length co34] 29 (0,0)) (by exact BK822.out) hb);have n4_:=am_ (bT_ (by exact HB.out) hb);have n5_:=am_ (hbox);have n6_:=am_ ((by rw [hg];exact (bZ_ (by exact HB.out)) : w.heap.size≤gb828));have n7_:=n6_;have n8_:=am_ ((by rw [hg];exact nL_ (kL_ (g:=gb810) (o:=.cells #[.int .i8 a0_0,.int .i8 a0_1,.slice A0_2 l0_2.length c0_2] 29 (0,0)) (by exact BK810.out)) : gb810 ≠ gb828));have n9_:=am_ ((by rw [hg];exact nG_ (kL_ (g:=gb810) (o:=.cells #[.int .i8 a0_0,.int .i8 a0_1,.slice A0_2 l0_2.length c0_2] 29 (0,0)) (by exact BK810.out)) : gb828 ≠ gb810));have n10_:=am_ ((by rw [hg];exact nL_ (kL_ (g:=gb811) (o:=.cells #[.int .i8 0,.int .i8 0,.slice none 0 0] 29 (0,0)) (by exact BK811.out)) : gb811 ≠ gb828));have n11_:=am_ ((by rw [hg];exact nG_ (kL_ (g:=gb811) (o:=.cells #[.int .i8 0,.int .i8 0,.slice none 0 0] 29 (0,0)) (by exact BK811.out)) : gb828 ≠ gb811));have n12_:=am_ ((by rw [hg];exact nL_ (kL_ (g:=gb822) (o:=.cells #[.int .i8 x823000_2,.int .i8 x823001_2,.slice Ao34 x823002_2.length co34] 29 (0,0)) (by exact BK822.out)) : gb822 ≠ gb828));have n13_:=am_ ((by rw [hg];exact nG_ (kL_ (g:=gb822) (o:=.cells #[.int .i8 x823000_2,.int .i8 x823001_2,.slice Ao34 x823002_2.length co34] 29 (0,0)) (by exact BK822.out)) : gb828 ≠ gb822));clear HO_823002;clear BK810;clear BK811;clear BK822;clear HB;have HO_823002:=n0_;have BK810:=n1_;have BK811:=n2_;have BK822:=n3_;have HB:=n4_;have BK828:=n5_;have GW828:=n6_;have GE828:=n7_;have NB810_828:=n8_;have NB828_810:=n9_;have NB811_828:=n10_;have NB828_811:=n11_;have NB822_828:=n12_;have NB828_822:=n13_;clear n0_ n1_ n2_ n3_ n4_ n5_ n6_ n7_ n8_ n9_ n10_ n11_ n12_ n13_;clear hb hbox hg;have hnb37:=NB828_810.out;have hnc37:=NB810_828.out;have hnb38:=NB828_811.out;have hnc38:=NB811_828.out;have hnb39:=NB828_822.out;have hnc39:=NB822_828.out;have hcz40_0 : w36.cell? ⟨gb828,0,none⟩ = some (.int .i8 0):=(kC_ BK828.out 0).trans rfl;have hcz40_1 : w36.cell? ⟨gb828,1,none⟩ = some (.int .i8 0):=(kC_ BK828.out 1).trans rfl;have hcz40_2 : w36.cell? ⟨gb828,2,none⟩ = some (.int .i8 0):=(kC_ BK828.out 2).trans rfl;have hcz40_3 : w36.cell? ⟨gb828,3,none⟩ = some (.int .i8 0):=(kC_ BK828.out 3).trans rfl;have hfz40_0:=kF_ BK828.out 0;have hfz40_1:=kF_ BK828.out 1;have hfz40_2:=kF_ BK828.out 2;have hfz40_3:=kF_ BK828.out 3)|((with_reducible refine gate_callee (f:=47) rfl ?_);refine goesL_ (some 47) rfl rfl Try.func47 (by kernel_rfl) rfl #[.pointer (some ⟨gb822,0,none⟩),.agg #[.int .i8 t823,.int .i8 t824,.int .i8 t825,.int .i8 t826]] rfl (by (try simp only [List.map_toArray,List.map_cons,List.map_nil]);first|done|rfl|(simp only [List.length_drop,List.length_take];rfl)) ?_;(with_reducible refine (spec_l01Put.calls k2 _ 1 [(⟨x823000_2,x823001_2,x823002_2⟩ : S29)] t823 t824 t825 t826 t829 t830 t831 _ ?side1 ?side2 A30.out).mono ?_);(case side1=>have hZ_ : ((((w36.setCell ⟨gb828,0,none⟩ (.int .i8 t823)).setCell ⟨gb828,1,none⟩ (.int .i8 t824)).setCell ⟨gb828,2,none⟩ (.int .i8 t825)).setCell ⟨gb828,3,none⟩ (.int .i8 t826)).heap[gb822]? = some (.cells #[.int .i8 x823000_2,.int .i8 x823001_2,.slice Ao34 x823002_2.length co34] 29 (0,0)):=(by refine kX_ ?_ NB822_828.out _;refine kX_ ?_ NB822_828.out _;refine kX_ ?_ NB822_828.out _;refine kX_ ?_ NB822_828.out _;exact BK822.out);exact Kd.C_one_ hZ_ (k29_mk _ _ (by exact (Kd.R_reads' HO_823002.out).2.1) (by refine (Kd.R_reads' (e:=49) (base:=w.heap.size) (ok:=fun k_=>(True ∧ k_ ≠ gb828)) (n:=x823002_2.length) (c:=co34) ?_).2.2;exact (by exact ((rM_ (Kd.R_far (p:=⟨gb828,3,none⟩) (Kd.R_far (p:=⟨gb828,2,none⟩) (Kd.R_far (p:=⟨gb828,1,none⟩) (Kd.R_far (p:=⟨gb828,0,none⟩) (rM_ HO_823002.out (fun k_ hk=>(⟨hk,hk.2⟩ : _ ∧ k_ ≠ gb828))) (fun _ hk=>hk.2) (.int .i8 t823)) (fun _ hk=>hk.2) (.int .i8 t824)) (fun _ hk=>hk.2) (.int .i8 t825)) (fun _ hk=>hk.2) (.int .i8 t826)) (fun _ h_=>h_.1)))))));(case side2=>exact Nat.le_refl _);rintro e w41 ⟨v832,rfl,ho0,hb⟩;refine ⟨_,rfl,?_⟩;have n0_:=am_ (Kd.R_elder' (by exact ((rM_ (Kd.R_far (p:=⟨gb828,3,none⟩) (Kd.R_far (p:=⟨gb828,2,none⟩) (Kd.R_far (p:=⟨gb828,1,none⟩) (Kd.R_far (p:=⟨gb828,0,none⟩) (rM_ HO_823002.out (fun k_ hk=>(⟨hk,hk.2⟩ : _ ∧ k_ ≠ gb828))) (fun _ hk=>hk.2) (.int .i8 t823)) (fun _ hk=>hk.2) (.int .i8 t824)) (fun _ hk=>hk.2) (.int .i8 t825)) (fun _ hk=>hk.2) (.int .i8 t826)) (fun _ h_=>h_.1)))) (Kd.R_base ho0) hb);have n1_:=am_ (Kd.R_lower (Kd.R_newB (Kd.R_new' ho0 (Kd.R_lt (by exact ((rM_ (Kd.R_far (p:=⟨gb828,3,none⟩) (Kd.R_far (p:=⟨gb828,2,none⟩) (Kd.R_far (p:=⟨gb828,1,none⟩) (Kd.R_far (p:=⟨gb828,0,none⟩) (rM_ HO_823002.out (fun k_ hk=>(⟨hk,hk.2⟩ : _ ∧ k_ ≠ gb828))) (fun _ hk=>hk.2) (.int .i8 t823)) (fun _ hk=>hk.2) (.int .i8 t824)) (fun _ hk=>hk.2) (.int .i8 t825)) (fun _ hk=>hk.2) (.int .i8 t826)) (fun _ h_=>h_.1)))))) (g:=gb828) (o:=.cells #[.int .i8 t823,.int .i8 t824,.int .i8 t825,.int .i8 t826] 49 (0,0)) (by (with_reducible repeat (first|apply kN_|apply kD_|apply kA_));refine blk_put (cs:=#[.int .i8 t823,.int .i8 t824,.int .i8 t825,.int .i8 0]) ?_ 3 _ rfl;(with_reducible repeat (first|apply kN_|apply kD_|apply kA_));refine blk_put (cs:=#[.int .i8 t823,.int .i8 t824,.int .i8 0,.int .i8 0]) ?_ 2 _ rfl;(with_reducible repeat (first|apply kN_|apply kD_|apply kA_));refine blk_put (cs:=#[.int .i8 t823,.int .i8 0,.int .i8 0,.int .i8 0]) ?_ 1 _ rfl;(with_reducible repeat (first|apply kN_|apply kD_|apply kA_));refine blk_put (cs:=#[.int .i8 0,.int .i8 0,.int .i8 0,.int .i8 0]) ?_ 0 _ rfl;(with_reducible repeat (first|apply kN_|apply kD_|apply kA_));exact BK828.out)) (bZ_ (by repeat (first|(with_reducible first|exact HB.out|apply bA_|apply bN_|apply bD_|refine bS_ ?_ GE810.out|refine bS_ ?_ GE811.out|refine bS_ ?_ GE822.out|refine bS_ ?_ GE828.out)|exact HB.out))));have n2_:=am_ (kB_ (g:=gb810) (o:=.cells #[.int .i8 a0_0,.int .i8 a0_1,.slice A0_2 l0_2.length c0_2] 29 (0,0)) (by refine kX_ ?_ NB810_828.out _;refine kX_ ?_ NB810_828.out _;refine kX_ ?_ NB810_828.out _;refine kX_ ?_ NB810_828.out _;exact BK810.out) hb);have n3_:=am_ (kB_ (g:=gb811) (o:=.cells #[.int .i8 0,.int .i8 0,.slice none 0 0] 29 (0,0)) (by refine kX_ ?_ NB811_828.out _;refine kX_ ?_ NB811_828.out _;refine kX_ ?_ NB811_828.out _;refine kX_ ?_ NB811_828.out _;exact BK811.out) hb);have n4_:=am_ (kB_ (g:=gb822) (o:=.cells #[.int .i8 x823000_2,.int .i8 x823001_2,.slice Ao34 x823002_2.length co34] 29 (0,0)) (by refine kX_ ?_ NB822_828.out _;refine kX_ ?_ NB822_828.out _;refine kX_ ?_ NB822_828.out _;refine kX_ ?_ NB822_828.out _;exact BK822.out) hb);have n5_:=am_ (kB_ (g:=gb828) (o:=.cells #[.int .i8 t823,.int .i8 t824,.int .i8 t825,.int .i8 t826] 49 (0,0)) (by (with_reducible repeat (first|apply kN_|apply kD_|apply kA_));refine blk_put (cs:=#[.int .i8 t823,.int .i8 t824,.int .i8 t825,.int .i8 0]) ?_ 3 _ rfl;(with_reducible repeat (first|apply kN_|apply kD_|apply kA_));refine blk_put (cs:=#[.int .i8 t823,.int .i8 t824,.int .i8 0,.int .i8 0]) ?_ 2 _ rfl;(with_reducible repeat (first|apply kN_|apply kD_|apply kA_));refine blk_put (cs:=#[.int .i8 t823,.int .i8 0,.int .i8 0,.int .i8 0]) ?_ 1 _ rfl;(with_reducible repeat (first|apply kN_|apply kD_|apply kA_));refine blk_put (cs:=#[.int .i8 0,.int .i8 0,.int .i8 0,.int .i8 0]) ?_ 0 _ rfl;(with_reducible repeat (first|apply kN_|apply kD_|apply kA_));exact BK828.out) hb);have n6_:=am_ (bT_ (by repeat (first|(with_reducible first|exact HB.out|apply bA_|apply bN_|apply bD_|refine bS_ ?_ GE810.out|refine bS_ ?_ GE811.out|refine bS_ ?_ GE822.out|refine bS_ ?_ GE828.out)|exact HB.out)) hb);clear HO_823002;clear BK810;clear BK811;clear BK822;clear BK828;clear HB;have HO_823002:=n0_;have HO833:=n1_;have BK810:=n2_;have BK811:=n3_;have BK822:=n4_;have BK828:=n5_;have HB:=n6_;clear n0_ n1_ n2_ n3_ n4_ n5_ n6_;(try clear hb hb2 hk hi ho0);have hcz42_0 : w41.cell? ⟨gb822,0,none⟩ = some (.int .i8 x823000_2):=(kC_ BK822.out 0).trans rfl;have hcz42_1 : w41.cell? ⟨gb822,1,none⟩ = some (.int .i8 x823001_2):=(kC_ BK822.out 1).trans rfl;have hcz42_2 : w41.cell? ⟨gb822,2,none⟩ = some (.slice Ao34 x823002_2.length co34):=(kC_ BK822.out 2).trans rfl;have hfz42_0:=kF_ BK822.out 0;have hfz42_1:=kF_ BK822.out 1;have hfz42_2:=kF_ BK822.out 2;obtain ⟨Ao43,co43,eo43⟩:=Kd.R_slice HO833.out;subst eo43))
         go_roundg k2
         case measure=>have:=HJ3.out;have:=HK2.out;omega
         case rel=>exact ⟨(wrap64 (x11_2 + 1)),(t829),(t830),(t831),(.slice Ao43 t831.length co43),(by first|rfl|(simp;done)|(simp [*];done)),H',⟨by have:=HJ3.out;have:=HK2.out;omega⟩,⟨by (with_reducible repeat (first|apply Kd.R_alloc|apply Kd.R_drewN|apply Kd.R_drew));exact rM_ (Kd.R_far (p:=⟨gb822,2,none⟩) (Kd.R_far (p:=⟨gb822,1,none⟩) (Kd.R_far (p:=⟨gb822,0,none⟩) (Kd.R_types HO833.out BK822.out (by decide)) (fun _ hk=>hk.2) (.int .i8 t829)) (fun _ hk=>hk.2) (.int .i8 t830)) (fun _ hk=>hk.2) (.slice Ao43 t831.length co43)) (fun _ hk=>trivial)⟩,⟨by refine kX_ ?_ NB810_822.out _;refine kX_ ?_ NB810_822.out _;refine kX_ ?_ NB810_822.out _;exact BK810.out⟩,⟨by refine kX_ ?_ NB811_822.out _;refine kX_ ?_ NB811_822.out _;refine kX_ ?_ NB811_822.out _;exact BK811.out⟩,⟨by (with_reducible repeat (first|apply kN_|apply kD_|apply kA_));refine blk_put (cs:=#[.int .i8 t829,.int .i8 t830,.slice Ao34 x823002_2.length co34]) ?_ 2 _ rfl;(with_reducible repeat (first|apply kN_|apply kD_|apply kA_));refine blk_put (cs:=#[.int .i8 t829,.int .i8 x823001_2,.slice Ao34 x823002_2.length co34]) ?_ 1 _ rfl;(with_reducible repeat (first|apply kN_|apply kD_|apply kA_));refine blk_put (cs:=#[.int .i8 x823000_2,.int .i8 x823001_2,.slice Ao34 x823002_2.length co34]) ?_ 0 _ rfl;(with_reducible repeat (first|apply kN_|apply kD_|apply kA_));exact BK822.out⟩,⟨by repeat (first|(with_reducible first|exact HB.out|apply bA_|apply bN_|apply bD_|refine bS_ ?_ GE810.out|refine bS_ ?_ GE811.out|refine bS_ ?_ GE822.out|refine bS_ ?_ GE828.out)|exact HB.out)⟩⟩
        ·
         replace c29:=Bool.eq_false_iff.mpr c29;subst c29;have H1 : (some (x823000_2,x823001_2,x823002_2,x11_2,0)) = some (r1,r2,r3,r4,r5):=by rw [if_neg (show ¬ (false = true) by decide)] at H;exact H
         clear H;have H:=H1;clear H1;simp only [Option.some.injEq,Prod.mk.injEq] at H;obtain ⟨rfl,rfl,rfl,rfl,rfl⟩:=H;have hnb44:=NB822_810.out;have hnc44:=NB810_822.out;have hnb45:=NB822_811.out;have hnc45:=NB811_822.out;have hcz46_0 : wr.cell? ⟨gb822,0,none⟩ = some (.int .i8 x823000_2):=(kC_ BK822.out 0).trans rfl;have hcz46_1 : wr.cell? ⟨gb822,1,none⟩ = some (.int .i8 x823001_2):=(kC_ BK822.out 1).trans rfl;have hcz46_2 : wr.cell? ⟨gb822,2,none⟩ = some (u823002):=(kC_ BK822.out 2).trans rfl;have hfz46_0:=kF_ BK822.out 0;have hfz46_1:=kF_ BK822.out 1;have hfz46_2:=kF_ BK822.out 2;obtain ⟨Ao47,co47,eo47⟩:=Kd.R_slice HO_823002.out;subst eo47
         go_wp2_with (first|((with_reducible refine gate_callee (f:=46) rfl ?_);refine goesL_ (some 41) rfl rfl Try.func46 (by kernel_rfl) rfl #[.pointer (some ⟨gb822,0,none⟩),.int .i64 a1,.int .i64 a2] rfl (by (try simp only [List.map_toArray,List.map_cons,List.map_nil]);first|done|rfl|(simp only [List.length_drop,List.length_take];rfl)) ?_;(with_reducible refine (spec_l01Place.calls k2 _ 1 [(⟨x823000_2,x823001_2,x823002_2⟩ : S29)] a1 a2 t823 t824 t825 t826 false _ ?side1 ?side2 A28.out).mono ?_);(case side1=>exact Kd.C_one_ (by exact BK822.out) (k29_mk _ _ (by exact (Kd.R_reads' HO_823002.out).2.1) (by repeat (first|exact (Kd.R_reads' HO_823002.out).2.2|(with_reducible refine Kd.C_alloc ?_ _)|(with_reducible refine Kd.C_drewN ?_ _)|(with_reducible refine Kd.C_drew ?_)))));(case side2=>exact Nat.le_refl _);rintro e w48 ⟨rfl,hb⟩;refine ⟨_,rfl,?_⟩;replace HO_823002:=am_ (Kd.R_below (by exact HO_823002.out) hb);replace BK810:=am_ (kB_ (g:=gb810) (o:=.cells #[.int .i8 a0_0,.int .i8 a0_1,.slice A0_2 l0_2.length c0_2] 29 (0,0)) (by exact BK810.out) hb);replace BK811:=am_ (kB_ (g:=gb811) (o:=.cells #[.int .i8 0,.int .i8 0,.slice none 0 0] 29 (0,0)) (by exact BK811.out) hb);replace BK822:=am_ (kB_ (g:=gb822) (o:=.cells #[.int .i8 x823000_2,.int .i8 x823001_2,.slice Ao47 x823002_2.length co47] 29 (0,0)) (by exact BK822.out) hb);replace HB:=am_ (bT_ (by exact HB.out) hb);(try clear hb hb2 hk hi))|((with_reducible refine gate_dst (N:=12) rfl ?_);refine box_event ?hg (N:=12) ?hd (cs:=#[.int .i8 0,.int .i8 0,.int .i8 0,.int .i8 0]) (t:=49) ?hr ?_;(case hd=>rfl);(case hg=>rfl);(case hr=>first|(go_simp;done)|(go_simp;rfl));intro gb828 hg w49 hbox hb;have n0_:=am_ (Kd.R_below (Kd.R_elderB (by exact HO_823002.out) gb828 (Nat.le_of_eq hg.symm)) hb);have n1_:=am_ (kB_ (g:=gb810) (o:=.cells #[.int .i8 a0_0,.int .i8 a0_1,.slice A0_2 l0_2.length c0_2] 29 (0,0)) (by exact BK810.out) hb);have n2_:=am_ (kB_ (g:=gb811) (o:=.cells #[.int .i8 0,.int .i8 0,.slice none 0 0] 29 (0,0)) (by exact BK811.out) hb);have n3_:=am_ (kB_ (g:=gb822) (o:=.cells #[.int .i8 x823000_2,.int .i8 x823001_2,.slice Ao47 x823002_2.length co47] 29 (0,0)) (by exact BK822.out) hb);have n4_:=am_ (bT_ (by exact HB.out) hb);have n5_:=am_ (hbox);have n6_:=am_ ((by rw [hg];exact (bZ_ (by exact HB.out)) : w.heap.size≤gb828));have n7_:=n6_;have n8_:=am_ ((by rw [hg];exact nL_ (kL_ (g:=gb810) (o:=.cells #[.int .i8 a0_0,.int .i8 a0_1,.slice A0_2 l0_2.length c0_2] 29 (0,0)) (by exact BK810.out)) : gb810 ≠ gb828));have n9_:=am_ ((by rw [hg];exact nG_ (kL_ (g:=gb810) (o:=.cells #[.int .i8 a0_0,.int .i8 a0_1,.slice A0_2 l0_2.length c0_2] 29 (0,0)) (by exact BK810.out)) : gb828 ≠ gb810));have n10_:=am_ ((by rw [hg];exact nL_ (kL_ (g:=gb811) (o:=.cells #[.int .i8 0,.int .i8 0,.slice none 0 0] 29 (0,0)) (by exact BK811.out)) : gb811 ≠ gb828));have n11_:=am_ ((by rw [hg];exact nG_ (kL_ (g:=gb811) (o:=.cells #[.int .i8 0,.int .i8 0,.slice none 0 0] 29 (0,0)) (by exact BK811.out)) : gb828 ≠ gb811));have n12_:=am_ ((by rw [hg];exact nL_ (kL_ (g:=gb822) (o:=.cells #[.int .i8 x823000_2,.int .i8 x823001_2,.slice Ao47 x823002_2.length co47] 29 (0,0)) (by exact BK822.out)) : gb822 ≠ gb828));have n13_:=am_ ((by rw [hg];exact nG_ (kL_ (g:=gb822) (o:=.cells #[.int .i8 x823000_2,.int .i8 x823001_2,.slice Ao47 x823002_2.length co47] 29 (0,0)) (by exact BK822.out)) : gb828 ≠ gb822));clear HO_823002;clear BK810;clear BK811;clear BK822;clear HB;have HO_823002:=n0_;have BK810:=n1_;have BK811:=n2_;have BK822:=n3_;have HB:=n4_;have BK828:=n5_;have GW828:=n6_;have GE828:=n7_;have NB810_828:=n8_;have NB828_810:=n9_;have NB811_828:=n10_;have NB828_811:=n11_;have NB822_828:=n12_;have NB828_822:=n13_;clear n0_ n1_ n2_ n3_ n4_ n5_ n6_ n7_ n8_ n9_ n10_ n11_ n12_ n13_;clear hb hbox hg;have hnb50:=NB828_810.out;have hnc50:=NB810_828.out;have hnb51:=NB828_811.out;have hnc51:=NB811_828.out;have hnb52:=NB828_822.out;have hnc52:=NB822_828.out;have hcz53_0 : w49.cell? ⟨gb828,0,none⟩ = some (.int .i8 0):=(kC_ BK828.out 0).trans rfl;have hcz53_1 : w49.cell? ⟨gb828,1,none⟩ = some (.int .i8 0):=(kC_ BK828.out 1).trans rfl;have hcz53_2 : w49.cell? ⟨gb828,2,none⟩ = some (.int .i8 0):=(kC_ BK828.out 2).trans rfl;have hcz53_3 : w49.cell? ⟨gb828,3,none⟩ = some (.int .i8 0):=(kC_ BK828.out 3).trans rfl;have hfz53_0:=kF_ BK828.out 0;have hfz53_1:=kF_ BK828.out 1;have hfz53_2:=kF_ BK828.out 2;have hfz53_3:=kF_ BK828.out 3;have hcz54_0 : w49.cell? ⟨gb822,0,none⟩ = some (.int .i8 x823000_2):=(kC_ BK822.out 0).trans rfl;have hcz54_1 : w49.cell? ⟨gb822,1,none⟩ = some (.int .i8 x823001_2):=(kC_ BK822.out 1).trans rfl;have hcz54_2 : w49.cell? ⟨gb822,2,none⟩ = some (.slice Ao47 x823002_2.length co47):=(kC_ BK822.out 2).trans rfl;have hfz54_0:=kF_ BK822.out 0;have hfz54_1:=kF_ BK822.out 1;have hfz54_2:=kF_ BK822.out 2;have hnb55:=NB811_810.out;have hnc55:=NB810_811.out;have hcz56_0 : w49.cell? ⟨gb811,0,none⟩ = some (.int .i8 0):=(kC_ BK811.out 0).trans rfl;have hcz56_1 : w49.cell? ⟨gb811,1,none⟩ = some (.int .i8 0):=(kC_ BK811.out 1).trans rfl;have hcz56_2 : w49.cell? ⟨gb811,2,none⟩ = some (.slice none 0 0):=(kC_ BK811.out 2).trans rfl;have hfz56_0:=kF_ BK811.out 0;have hfz56_1:=kF_ BK811.out 1;have hfz56_2:=kF_ BK811.out 2))
         refine bodyPost_ret (results_ctt rfl _ _ gb811 29 #[.int .i8 x823000_2,.int .i8 x823001_2,.slice Ao47 x823002_2.length co47] (0,0) _ rfl (by (with_reducible repeat (first|apply kN_|apply kD_|apply kA_));refine blk_put (cs:=#[.int .i8 x823000_2,.int .i8 x823001_2,.slice none 0 0]) ?_ 2 _ rfl;(with_reducible repeat (first|apply kN_|apply kD_|apply kA_));refine blk_put (cs:=#[.int .i8 x823000_2,.int .i8 0,.slice none 0 0]) ?_ 1 _ rfl;(with_reducible repeat (first|apply kN_|apply kD_|apply kA_));refine blk_put (cs:=#[.int .i8 0,.int .i8 0,.slice none 0 0]) ?_ 0 _ rfl;refine kX_ ?_ NB811_828.out _;refine kX_ ?_ NB811_828.out _;refine kX_ ?_ NB811_828.out _;refine kX_ ?_ NB811_828.out _;exact BK811.out) Try.underlying29 rfl (by kernel_rfl)) rfl ?_;exact ⟨_,by first|rfl|(simp [errW_none,errW_some] <;> rfl)|(simp [*,errW_none,errW_some] <;> rfl),by (with_reducible repeat (first|apply Kd.R_alloc|apply Kd.R_drewN|apply Kd.R_drew));exact rM_ (Kd.R_far (p:=⟨gb811,2,none⟩) (Kd.R_far (p:=⟨gb811,1,none⟩) (Kd.R_far (p:=⟨gb811,0,none⟩) (Kd.R_far (p:=⟨gb828,3,none⟩) (Kd.R_far (p:=⟨gb828,2,none⟩) (Kd.R_far (p:=⟨gb828,1,none⟩) (Kd.R_far (p:=⟨gb828,0,none⟩) (Kd.R_types (rM_ HO_823002.out (fun k_ hk=>(⟨hk,hk.2⟩ : _ ∧ k_ ≠ gb828))) BK811.out (by decide)) (fun _ hk=>hk.1.2) (.int .i8 t823)) (fun _ hk=>hk.1.2) (.int .i8 t824)) (fun _ hk=>hk.1.2) (.int .i8 t825)) (fun _ hk=>hk.1.2) (.int .i8 t826)) (fun _ hk=>hk.2) (.int .i8 x823000_2)) (fun _ hk=>hk.2) (.int .i8 x823001_2)) (fun _ hk=>hk.2) (.slice Ao47 x823002_2.length co47)) (fun _ hk=>trivial),by repeat (first|(with_reducible first|exact HB.out|apply bA_|apply bN_|apply bD_|refine bS_ ?_ GE810.out|refine bS_ ?_ GE811.out|refine bS_ ?_ GE822.out|refine bS_ ?_ GE828.out)|exact HB.out)⟩
       ·
        rw [if_neg c27] at H;have c27b0 : decide ((x823002_2.length : Int) < 60) = false:=decide_eq_false c27;have c27b1 : decide (x823002_2.length < 60) = false:=decide_eq_false (by omega);clear c27;simp only [Option.some.injEq,Prod.mk.injEq] at H;obtain ⟨rfl,rfl,rfl,rfl,rfl⟩:=H;have hnb57:=NB822_810.out;have hnc57:=NB810_822.out;have hnb58:=NB822_811.out;have hnc58:=NB811_822.out;have hcz59_0 : wr.cell? ⟨gb822,0,none⟩ = some (.int .i8 x823000_2):=(kC_ BK822.out 0).trans rfl;have hcz59_1 : wr.cell? ⟨gb822,1,none⟩ = some (.int .i8 x823001_2):=(kC_ BK822.out 1).trans rfl;have hcz59_2 : wr.cell? ⟨gb822,2,none⟩ = some (u823002):=(kC_ BK822.out 2).trans rfl;have hfz59_0:=kF_ BK822.out 0;have hfz59_1:=kF_ BK822.out 1;have hfz59_2:=kF_ BK822.out 2;obtain ⟨Ao60,co60,eo60⟩:=Kd.R_slice HO_823002.out;subst eo60;have hnb61:=NB811_810.out;have hnc61:=NB810_811.out;have hcz62_0 : wr.cell? ⟨gb811,0,none⟩ = some (.int .i8 0):=(kC_ BK811.out 0).trans rfl;have hcz62_1 : wr.cell? ⟨gb811,1,none⟩ = some (.int .i8 0):=(kC_ BK811.out 1).trans rfl;have hcz62_2 : wr.cell? ⟨gb811,2,none⟩ = some (.slice none 0 0):=(kC_ BK811.out 2).trans rfl;have hfz62_0:=kF_ BK811.out 0;have hfz62_1:=kF_ BK811.out 1;have hfz62_2:=kF_ BK811.out 2
        go_wp2
        refine bodyPost_ret (results_ctt rfl _ _ gb811 29 #[.int .i8 x823000_2,.int .i8 x823001_2,.slice Ao60 x823002_2.length co60] (0,0) _ rfl (by (with_reducible repeat (first|apply kN_|apply kD_|apply kA_));refine blk_put (cs:=#[.int .i8 x823000_2,.int .i8 x823001_2,.slice none 0 0]) ?_ 2 _ rfl;(with_reducible repeat (first|apply kN_|apply kD_|apply kA_));refine blk_put (cs:=#[.int .i8 x823000_2,.int .i8 0,.slice none 0 0]) ?_ 1 _ rfl;(with_reducible repeat (first|apply kN_|apply kD_|apply kA_));refine blk_put (cs:=#[.int .i8 0,.int .i8 0,.slice none 0 0]) ?_ 0 _ rfl;(with_reducible repeat (first|apply kN_|apply kD_|apply kA_));exact BK811.out) Try.underlying29 rfl (by kernel_rfl)) rfl ?_;exact ⟨_,by first|rfl|(simp [errW_none,errW_some] <;> rfl)|(simp [*,errW_none,errW_some] <;> rfl),by (with_reducible repeat (first|apply Kd.R_alloc|apply Kd.R_drewN|apply Kd.R_drew));exact rM_ (Kd.R_far (p:=⟨gb811,2,none⟩) (Kd.R_far (p:=⟨gb811,1,none⟩) (Kd.R_far (p:=⟨gb811,0,none⟩) (Kd.R_types HO_823002.out BK811.out (by decide)) (fun _ hk=>hk.2) (.int .i8 x823000_2)) (fun _ hk=>hk.2) (.int .i8 x823001_2)) (fun _ hk=>hk.2) (.slice Ao60 x823002_2.length co60)) (fun _ hk=>trivial),by repeat (first|(with_reducible first|exact HB.out|apply bA_|apply bN_|apply bD_|refine bS_ ?_ GE810.out|refine bS_ ?_ GE811.out|refine bS_ ?_ GE822.out)|exact HB.out)⟩
    · rw [if_neg c15] at H;exact absurd H (by simp)
   ·
    rw [if_neg c14] at H;have c14b0 : (x9_3 == 0) = false:=beq_eq_false_iff_ne.mpr c14;have c14b1 : (x9_3 != 0) = true:=bne_iff_ne.mpr c14;simp only [Option.some.injEq,Prod.mk.injEq] at H;obtain ⟨rfl,rfl,rfl,rfl,rfl⟩:=H;have hnb63:=NB811_810.out;have hnc63:=NB810_811.out;have hcz64_0 : wc.cell? ⟨gb811,0,none⟩ = some (.int .i8 0):=(kC_ BK811.out 0).trans rfl;have hcz64_1 : wc.cell? ⟨gb811,1,none⟩ = some (.int .i8 0):=(kC_ BK811.out 1).trans rfl;have hcz64_2 : wc.cell? ⟨gb811,2,none⟩ = some (.slice none 0 0):=(kC_ BK811.out 2).trans rfl;have hfz64_0:=kF_ BK811.out 0;have hfz64_1:=kF_ BK811.out 1;have hfz64_2:=kF_ BK811.out 2
    go_wp2
    refine bodyPost_ret (results_ctt rfl _ _ gb811 29 #[.int .i8 0,.int .i8 0,.slice none 0 0] (0,0) _ rfl (by (with_reducible repeat (first|apply kN_|apply kD_|apply kA_));refine blk_put (cs:=#[.int .i8 0,.int .i8 0,.slice none 0 0]) ?_ 2 _ rfl;(with_reducible repeat (first|apply kN_|apply kD_|apply kA_));refine blk_put (cs:=#[.int .i8 0,.int .i8 0,.slice none 0 0]) ?_ 1 _ rfl;(with_reducible repeat (first|apply kN_|apply kD_|apply kA_));refine blk_put (cs:=#[.int .i8 0,.int .i8 0,.slice none 0 0]) ?_ 0 _ rfl;(with_reducible repeat (first|apply kN_|apply kD_|apply kA_));exact BK811.out) Try.underlying29 rfl (by kernel_rfl)) rfl ?_;exact ⟨_,by first|rfl|(simp [errW_none,errW_some] <;> rfl)|(simp [*,errW_none,errW_some] <;> rfl),by first|exact Kd.R_nil _ _ _ _ _|exact Kd.N_nil _ _ _ _ _|exact Kd.V_nil _ _ _ _ _|exact Kd.Q_nil _ _ _ _ _|exact Kd.S_nil _ _ _ _ _,by repeat (first|(with_reducible first|exact HB.out|apply bA_|apply bN_|apply bD_|refine bS_ ?_ GE810.out|refine bS_ ?_ GE811.out)|exact HB.out)⟩
attribute [local go_sem] max2_int min2_int max_two min_two max_three min_three max_four min_four
set_option linter.unusedVariables false
set_option linter.unusedSimpArgs false
def impl_Slab_66.f (l0 : List (S49)) : Option ((List (S49))) := (some (([] : List (S49)) : List (S49))).bind fun y261 => (if y261.length + l0.length < 35184372088832 then (some (y261 ++ l0)) else (none))
set_option maxHeartbeats 8000000 in
set_option maxRecDepth 100000 in
theorem impl_Slab_66.calls (A0 : Option Addr) (c0 : Nat) (l0 : List (S49)) (r : List (S49)) (w : World) (hr0 : Kd.C k49 w A0 l0.length l0) (hc0 : l0.length ≤ c0) (h : impl_Slab_66.f l0 = some r) :
  Calls Try.prog 66 #[.slice A0 l0.length c0] w fun e w'=>∃ v0_ : Value,e = .returned (v0_) ∧ Kd.R k49 49 w' w.heap.size (fun _=>True) v0_ r ∧ Below w.heap.size w w':=by
 have heq_:=fun (W : World) (a : Option Addr) (n c : Nat)=>Go.Lib.run_eql_slice_nil (P:=Try.prog) W 27 49 a n c 0 0 Try.underlying27
 obtain _|ad0_:=A0
 ·
  have hl_ : l0 = []:=by
   rcases Nat.eq_zero_or_pos l0.length with h0_|h0_
   · exact List.eq_nil_of_length_eq_zero h0_
   ·
    obtain ⟨_,e_,_⟩:=hr0.2.2 h0_
    cases e_
  subst hl_;have hr_ : r = []:=by
   have h2_:=h
   simp [impl_Slab_66.f] at h2_
   first|exact h2_|exact h2_.2|exact h2_.symm
  subst hr_
  go_enter Try.func66,Try.ntmps66
  go_wp2
  go_ret
  exact ⟨_,rfl,Kd.R_nil _ _ _ _ _,Below.refl _ _⟩
 have HR0:=am_ hr0;have HC0:=am_ hc0;clear hr0 hc0;have HB:=am_ (Below.refl w.heap.size w);have H : ((some (([] : List (S49)) : List (S49))).bind fun y261=>(if y261.length + l0.length < 35184372088832 then (some (y261 ++ l0)) else (none))) = some r:=h;clear h;obtain ⟨y261,hy261⟩ : ∃ y_ : List (S49),y_ = (([] : List (S49))):=⟨_,rfl⟩
 replace H : (if y261.length + l0.length < 35184372088832 then (some (y261 ++ l0)) else (none)) = some r:=by first|(rw [hy261];with_reducible exact H)|(have H2_:=(Option.bind_some _ _).symm.trans H;rw [hy261];with_reducible exact H2_)|(have H2_:=(Option.bind_some _ _).symm.trans H;with_reducible exact H2_)|with_reducible exact H|(rw [hy261];exact H)|exact H
 have Ny261:=am_ hy261;clear hy261
 by_cases c2 : y261.length + l0.length < 35184372088832
 ·
  rw [if_pos c2] at H;have LMc2:=am_ c2;clear c2;obtain ⟨y264,hy264⟩ : ∃ y_ : List (S49),y_ = (y261 ++ l0):=⟨_,rfl⟩
  replace H : (some y264) = some r:=by first|(rw [hy264];with_reducible exact H)|(have H2_:=(Option.bind_some _ _).symm.trans H;rw [hy264];with_reducible exact H2_)|(have H2_:=(Option.bind_some _ _).symm.trans H;with_reducible exact H2_)|with_reducible exact H|(rw [hy264];exact H)|exact H
  have Ny264:=am_ hy264;clear hy264;obtain rfl:=Option.some.inj H
  go_enter Try.func66,Try.ntmps66
  go_wp2_with (first|((with_reducible refine gate_dst (N:=5) rfl ?_);refine Kd.R_lit k49 _ 49 ?hg (N:=5) ?hd (xs:=([] : List (S49))) (inner:=[]) (ok:=fun _=>True) (okp:=fun _=>True) ?hr ?hp (fun _ hk=>hk) trivial (Below.refl _ _) (Nat.le_refl _) (by simp) ?_;(case hd=>rfl);(case hg=>rfl);(case hr=>first|(go_simp;done)|(go_simp;rfl));(case hp=>exact (Reps.none _ _));intro v262 w3 ho4 hb hg_ hnew_;clear hg_ hnew_;(first|rw [← Ny261.out] at ho4|(simp only [Int.reduceToNat] at ho4;rw [← Ny261.out] at ho4));have HO263:=am_ (Kd.R_lower ho4 (bZ_ (by exact HB.out)));replace HB:=am_ (bT_ (by exact HB.out) hb);clear hb ho4)|((with_reducible refine gate_builtin (b:=.append) (xs:=#[.tmp 5,.tmp 6]) rfl ?_);at_builtin;refine Kd.R_append_rows k49 (w0:=w) w.heap.size rfl (.tmp 5) (.tmp 6) 27 49 (.agg #[(.int .i8 0),(.int .i8 0),(.int .i8 0),(.int .i8 0)]) 4 rfl Try.underlying27 info49 rfl (by decide) (by omega) v262 y261 l0 _ _ _ (fun _=>True) (fun _=>False) rfl rfl ?aO ?aR (fun _ _ h=>h) (fun _ h=>h.elim) ?aF ?aB ?aS ?aL ?_;(case aR=>repeat (first|exact (cB_ HR0.out HB.out)|(with_reducible refine Kd.C_alloc ?_ _)|(with_reducible refine Kd.C_drewN ?_ _)|(with_reducible refine Kd.C_drew ?_)));(case aB=>exact (by exact HB.out));(case aF=>exact (fun _ _=>trivial));(case aO=>exact (by exact HO263.out));(case aS=>exact (bZ_ (by exact HB.out)));(case aL=>have:=LMc2.out;omega);intro v265 w5 ho hb hg hat;rw [← Ny264.out] at ho;have n0_:=am_ (hb);have n1_:=am_ (ho);clear HB;clear HO263;have HB:=n0_;have HO266:=n1_;clear n0_ n1_;clear ho hb hg hat))
  go_ret
  exact ⟨_,by first|rfl|(simp [errW_none,errW_some] <;> rfl)|(simp [*,errW_none,errW_some] <;> rfl),by (with_reducible repeat (first|apply Kd.R_alloc|apply Kd.R_drewN|apply Kd.R_drew));exact HO266.out,by repeat (first|(with_reducible first|exact HB.out|apply bA_|apply bN_|apply bD_)|exact HB.out)⟩
 · rw [if_neg c2] at H;exact absurd H (by simp)
def cmp_Or_int.l0 : Nat → Int → List Int → Int → Int → Option (Int)
 | 0,_,_,_,_=>none
 | k + 1,x3,x6,x7,x8=>if x8 < x7 then (if 0≤x8 then (if x8 < (x6.length : Int) then (if (rd x6 x8) = x3 then (cmp_Or_int.l0 k x3 x6 x7 (wrap64 (x8 + 1))) else (some (rd x6 x8))) else (none)) else (none)) else (some x3)
def cmp_Or_int.f (k : Nat) (l0 : List Int) : Option (Int) := cmp_Or_int.l0 k 0 l0 (l0.length : Int) 0
theorem cmp_Or_int.mono_l : ∀ k, (∀ y0 y1 y2 y3, LeO (cmp_Or_int.l0 k y0 y1 y2 y3) (cmp_Or_int.l0 (k + 1) y0 y1 y2 y3))
 | 0=>fun _ _ _ _ r h=>by simp [cmp_Or_int.l0] at h
 | k + 1=>by
  have ih0:=cmp_Or_int.mono_l k
  ·
   intro y0 y1 y2 y3
   unfold cmp_Or_int.l0
   repeat' first
   | (with_reducible exact ih0 _ _ _ _)
   | (with_reducible exact LeO.refl _)
   | (with_reducible exact LeO.none _)
   | (with_reducible refine LeO.ite ?_ ?_)
   | (with_reducible refine LeO.bind ?_ (fun _=>?_))
   | exact ih0 _ _ _ _
   | exact LeO.none _
   | refine LeO.ite ?_ ?_
   | refine LeO.bind ?_ (fun _=>?_)
theorem cmp_Or_int.mono : ∀ a0 k, LeO (cmp_Or_int.f k a0) (cmp_Or_int.f (k + 1) a0) := by
 intro a0 k;have ih0:=cmp_Or_int.mono_l k
 unfold cmp_Or_int.f
 repeat' first
   | (with_reducible exact ih0 _ _ _ _)
   | (with_reducible exact LeO.refl _)
   | (with_reducible exact LeO.none _)
   | (with_reducible refine LeO.ite ?_ ?_)
   | (with_reducible refine LeO.bind ?_ (fun _=>?_))
   | exact ih0 _ _ _ _
   | exact LeO.none _
   | refine LeO.ite ?_ ?_
   | refine LeO.bind ?_ (fun _=>?_)
set_option maxHeartbeats 8000000 in
set_option maxRecDepth 100000 in
theorem cmp_Or_int.calls (k : Nat) (A0 : Option Addr) (c0 : Nat) (l0 : List Int) (r : Int) (w : World) (hr0 : Kd.C (Kd.int .i64) w A0 l0.length l0) (hc0 : l0.length ≤ c0) (h : cmp_Or_int.f k l0 = some r) :
  Calls Try.prog 58 #[.slice A0 l0.length c0] w fun e w'=>e = .returned (.int .i64 r) ∧ Drawn0 w w':=by
 have HR0:=am_ hr0;have HC0:=am_ hc0;clear hr0 hc0;have H : (cmp_Or_int.l0 k 0 l0 (l0.length : Int) 0) = some r:=h;clear h;have H':=am_ H;clear H
 go_enter Try.func58,Try.ntmps58
 go_wp2
 go_loopg [8] k (fun kq v8 w'=>∃ (x8_1 : Int),v8 = .int .i64 x8_1 ∧ Aside0 (cmp_Or_int.l0 kq 0 l0 (l0.length : Int) x8_1 = some r) ∧ Aside0 (kq≤k) ∧ Drawn0 w w')
 case atStart=>exact ⟨(0),(by first|rfl|(simp;done)|(simp [*];done)),H',⟨Nat.le_refl _⟩,by repeat (first|exact Drawn0.refl _|apply Drawn0.step)⟩
 case round =>
  clear H';obtain ⟨x8_1,rfl,HA,HK1,⟨m1,rfl⟩⟩:=hrel
  cases gk with
  | zero=>exact absurd HA.out (by simp [cmp_Or_int.l0])
  | succ k1 =>
   have H:=HA.out;clear HA;simp only [cmp_Or_int.l0] at H
   by_cases c2 : x8_1 < (l0.length : Int)
   ·
    rw [if_pos c2] at H;have c2b0 : decide (x8_1 < (l0.length : Int)) = true:=decide_eq_true c2;clear c2
    by_cases c3 : 0≤x8_1
    ·
     rw [if_pos c3] at H;have c3b0 : decide (0≤x8_1) = true:=decide_eq_true c3;clear c3
     by_cases c4 : x8_1 < (l0.length : Int)
     ·
      rw [if_pos c4] at H;have c4b0 : decide (x8_1 < (l0.length : Int)) = true:=decide_eq_true c4;clear c4
      by_cases c5 : (rd l0 x8_1) = 0
      ·
       rw [if_pos c5] at H;have c5b0 : ((rd l0 x8_1) == 0) = true:=beq_iff_eq.mpr c5;have c5b1 : ((rd l0 x8_1) != 0) = false:=bne_eq_false_iff_eq.mpr c5;clear c5;have H':=am_ H;clear H;have p267 : 0≤(x8_1 : Int):=od_ (by first|(with_reducible assumption)|assumption);have q267 : x8_1 < (l0.length : Int):=od_ (by first|(with_reducible assumption)|assumption);obtain ⟨ad267,e267,hx267_0⟩:=Kd.at_int HR0.out x8_1 p267 q267
       cases e267
       replace p267:=eq_true p267;replace q267:=eq_true q267
       go_wp2
       go_roundg k1
       case measure=>have:=HK1.out;omega
       case rel=>exact ⟨(wrap64 (x8_1 + 1)),(by first|rfl|(simp;done)|(simp [*];done)),H',⟨by have:=HK1.out;omega⟩,by repeat (first|exact Drawn0.refl _|apply Drawn0.step)⟩
      ·
       rw [if_neg c5] at H;have c5b0 : ((rd l0 x8_1) == 0) = false:=beq_eq_false_iff_ne.mpr c5;have c5b1 : ((rd l0 x8_1) != 0) = true:=bne_iff_ne.mpr c5;obtain rfl:=Option.some.inj H;have p267 : 0≤(x8_1 : Int):=od_ (by first|(with_reducible assumption)|assumption);have q267 : x8_1 < (l0.length : Int):=od_ (by first|(with_reducible assumption)|assumption);obtain ⟨ad267,e267,hx267_0⟩:=Kd.at_int HR0.out x8_1 p267 q267
       cases e267
       replace p267:=eq_true p267;replace q267:=eq_true q267
       go_wp2
       go_ret
       exact ⟨by first|rfl|(simp;done)|(simp [*];done),by repeat (first|exact Drawn0.refl _|apply Drawn0.step)⟩
     · rw [if_neg c4] at H;exact absurd H (by simp)
    · rw [if_neg c3] at H;exact absurd H (by simp)
   ·
    rw [if_neg c2] at H;have c2b0 : decide (x8_1 < (l0.length : Int)) = false:=decide_eq_false c2;clear c2;obtain rfl:=Option.some.inj H
    go_wp2
    go_ret
    exact ⟨by first|rfl|(simp;done)|(simp [*];done),by repeat (first|exact Drawn0.refl _|apply Drawn0.step)⟩
def cmp_isNaN_int8.f (a0 : Int) : Option (Bool) := some (a0 != a0)
set_option maxHeartbeats 8000000 in
set_option maxRecDepth 100000 in
theorem cmp_isNaN_int8.calls (a0 : Int) (r : Bool) (w : World) (h : cmp_isNaN_int8.f a0 = some r) :
  Calls Try.prog 90 #[.int .i8 a0] w fun e w'=>e = .returned (.bool r) ∧ Drawn0 w w':=by
 have H : (some (a0 != a0)) = some r:=h;clear h;obtain rfl:=Option.some.inj H
 go_enter Try.func90,Try.ntmps90
 go_wp2
 go_ret
 exact ⟨by first|rfl|(simp;done)|(simp [*];done),by repeat (first|exact Drawn0.refl _|apply Drawn0.step)⟩
def cmp_Compare_int8.f (a0 : Int) (a1 : Int) : Option (Int) := (cmp_isNaN_int8.f a0).bind fun t268 => ((cmp_isNaN_int8.f a1).bind fun t269 => (if t268 = true then (if t269 = true then (some 0) else (some (-1))) else (if t269 = true then (some 1) else (if a0 < a1 then (some (-1)) else (if a0 > a1 then (some 1) else (some 0))))))
set_option maxHeartbeats 8000000 in
set_option maxRecDepth 100000 in
theorem cmp_Compare_int8.calls (a0 : Int) (a1 : Int) (r : Int) (w : World) (h : cmp_Compare_int8.f a0 a1 = some r) :
  Calls Try.prog 59 #[.int .i8 a0,.int .i8 a1] w fun e w'=>e = .returned (.int .i64 r) ∧ Drawn0 w w':=by
 have H : ((cmp_isNaN_int8.f a0).bind fun t268=>((cmp_isNaN_int8.f a1).bind fun t269=>(if t268 = true then (if t269 = true then (some 0) else (some (-1))) else (if t269 = true then (some 1) else (if a0 < a1 then (some (-1)) else (if a0 > a1 then (some 1) else (some 0))))))) = some r:=h;clear h;replace H:=Option.bind_eq_some_iff.mp H;obtain ⟨t268,A30,H⟩:=H;replace H : ((cmp_isNaN_int8.f a1).bind fun t269=>(if t268 = true then (if t269 = true then (some 0) else (some (-1))) else (if t269 = true then (some 1) else (if a0 < a1 then (some (-1)) else (if a0 > a1 then (some 1) else (some 0)))))) = some r:=H;have A3:=am_ A30;clear A30;replace H:=Option.bind_eq_some_iff.mp H;obtain ⟨t269,A40,H⟩:=H;replace H : (if t268 = true then (if t269 = true then (some 0) else (some (-1))) else (if t269 = true then (some 1) else (if a0 < a1 then (some (-1)) else (if a0 > a1 then (some 1) else (some 0))))) = some r:=H;have A4:=am_ A40;clear A40
 by_cases c5 : t268 = true
 ·
  subst c5;have H1 : (if t269 = true then (some 0) else (some (-1))) = some r:=by rw [if_pos rfl] at H;exact H
  clear H;have H:=H1;clear H1
  by_cases c6 : t269 = true
  ·
   subst c6;have H1 : (some 0) = some r:=by rw [if_pos rfl] at H;exact H
   clear H;have H:=H1;clear H1;obtain rfl:=Option.some.inj H
   go_enter Try.func59,Try.ntmps59
   go_wp2_with (first|((with_reducible refine gate_callee (f:=90) rfl ?_);refine goesL_ (some 8) rfl rfl Try.func90 (by kernel_rfl) rfl #[.int .i8 a0] rfl (by (try simp only [List.map_toArray,List.map_cons,List.map_nil]);first|done|rfl|(simp only [List.length_drop,List.length_take];rfl)) ?_;(with_reducible refine (cmp_isNaN_int8.calls a0 true _ A3.out).mono ?_);rintro e w' ⟨rfl,⟨nd,rfl⟩⟩;refine ⟨_,rfl,?_⟩)|((with_reducible refine gate_callee (f:=90) rfl ?_);refine goesL_ (some 10) rfl rfl Try.func90 (by kernel_rfl) rfl #[.int .i8 a1] rfl (by (try simp only [List.map_toArray,List.map_cons,List.map_nil]);first|done|rfl|(simp only [List.length_drop,List.length_take];rfl)) ?_;(with_reducible refine (cmp_isNaN_int8.calls a1 true _ A4.out).mono ?_);rintro e w' ⟨rfl,⟨nd,rfl⟩⟩;refine ⟨_,rfl,?_⟩))
   go_ret
   exact ⟨by first|rfl|(simp;done)|(simp [*];done),by repeat (first|exact Drawn0.refl _|apply Drawn0.step)⟩
  ·
   replace c6:=Bool.eq_false_iff.mpr c6;subst c6;have H1 : (some (-1)) = some r:=by rw [if_neg (show ¬ (false = true) by decide)] at H;exact H
   clear H;have H:=H1;clear H1;obtain rfl:=Option.some.inj H
   go_enter Try.func59,Try.ntmps59
   go_wp2_with (first|((with_reducible refine gate_callee (f:=90) rfl ?_);refine goesL_ (some 8) rfl rfl Try.func90 (by kernel_rfl) rfl #[.int .i8 a0] rfl (by (try simp only [List.map_toArray,List.map_cons,List.map_nil]);first|done|rfl|(simp only [List.length_drop,List.length_take];rfl)) ?_;(with_reducible refine (cmp_isNaN_int8.calls a0 true _ A3.out).mono ?_);rintro e w' ⟨rfl,⟨nd,rfl⟩⟩;refine ⟨_,rfl,?_⟩)|((with_reducible refine gate_callee (f:=90) rfl ?_);refine goesL_ (some 10) rfl rfl Try.func90 (by kernel_rfl) rfl #[.int .i8 a1] rfl (by (try simp only [List.map_toArray,List.map_cons,List.map_nil]);first|done|rfl|(simp only [List.length_drop,List.length_take];rfl)) ?_;(with_reducible refine (cmp_isNaN_int8.calls a1 false _ A4.out).mono ?_);rintro e w' ⟨rfl,⟨nd,rfl⟩⟩;refine ⟨_,rfl,?_⟩))
   go_ret
   exact ⟨by first|rfl|(simp;done)|(simp [*];done),by repeat (first|exact Drawn0.refl _|apply Drawn0.step)⟩
 ·
  replace c5:=Bool.eq_false_iff.mpr c5;subst c5;have H1 : (if t269 = true then (some 1) else (if a0 < a1 then (some (-1)) else (if a0 > a1 then (some 1) else (some 0)))) = some r:=by rw [if_neg (show ¬ (false = true) by decide)] at H;exact H
  clear H;have H:=H1;clear H1
  by_cases c7 : t269 = true
  ·
   subst c7;have H1 : (some 1) = some r:=by rw [if_pos rfl] at H;exact H
   clear H;have H:=H1;clear H1;obtain rfl:=Option.some.inj H
   go_enter Try.func59,Try.ntmps59
   go_wp2_with (first|((with_reducible refine gate_callee (f:=90) rfl ?_);refine goesL_ (some 8) rfl rfl Try.func90 (by kernel_rfl) rfl #[.int .i8 a0] rfl (by (try simp only [List.map_toArray,List.map_cons,List.map_nil]);first|done|rfl|(simp only [List.length_drop,List.length_take];rfl)) ?_;(with_reducible refine (cmp_isNaN_int8.calls a0 false _ A3.out).mono ?_);rintro e w' ⟨rfl,⟨nd,rfl⟩⟩;refine ⟨_,rfl,?_⟩)|((with_reducible refine gate_callee (f:=90) rfl ?_);refine goesL_ (some 10) rfl rfl Try.func90 (by kernel_rfl) rfl #[.int .i8 a1] rfl (by (try simp only [List.map_toArray,List.map_cons,List.map_nil]);first|done|rfl|(simp only [List.length_drop,List.length_take];rfl)) ?_;(with_reducible refine (cmp_isNaN_int8.calls a1 true _ A4.out).mono ?_);rintro e w' ⟨rfl,⟨nd,rfl⟩⟩;refine ⟨_,rfl,?_⟩))
   go_ret
   exact ⟨by first|rfl|(simp;done)|(simp [*];done),by repeat (first|exact Drawn0.refl _|apply Drawn0.step)⟩
  ·
   replace c7:=Bool.eq_false_iff.mpr c7;subst c7;have H1 : (if a0 < a1 then (some (-1)) else (if a0 > a1 then (some 1) else (some 0))) = some r:=by rw [if_neg (show ¬ (false = true) by decide)] at H;exact H
   clear H;have H:=H1;clear H1
   by_cases c8 : a0 < a1
   ·
    rw [if_pos c8] at H;have c8b0 : decide (a0 < a1) = true:=decide_eq_true c8;clear c8;obtain rfl:=Option.some.inj H
    go_enter Try.func59,Try.ntmps59
    go_wp2_with (first|((with_reducible refine gate_callee (f:=90) rfl ?_);refine goesL_ (some 8) rfl rfl Try.func90 (by kernel_rfl) rfl #[.int .i8 a0] rfl (by (try simp only [List.map_toArray,List.map_cons,List.map_nil]);first|done|rfl|(simp only [List.length_drop,List.length_take];rfl)) ?_;(with_reducible refine (cmp_isNaN_int8.calls a0 false _ A3.out).mono ?_);rintro e w' ⟨rfl,⟨nd,rfl⟩⟩;refine ⟨_,rfl,?_⟩)|((with_reducible refine gate_callee (f:=90) rfl ?_);refine goesL_ (some 10) rfl rfl Try.func90 (by kernel_rfl) rfl #[.int .i8 a1] rfl (by (try simp only [List.map_toArray,List.map_cons,List.map_nil]);first|done|rfl|(simp only [List.length_drop,List.length_take];rfl)) ?_;(with_reducible refine (cmp_isNaN_int8.calls a1 false _ A4.out).mono ?_);rintro e w' ⟨rfl,⟨nd,rfl⟩⟩;refine ⟨_,rfl,?_⟩))
    go_ret
    exact ⟨by first|rfl|(simp;done)|(simp [*];done),by repeat (first|exact Drawn0.refl _|apply Drawn0.step)⟩
   ·
    rw [if_neg c8] at H;have c8b0 : decide (a0 < a1) = false:=decide_eq_false c8;clear c8
    by_cases c9 : a0 > a1
    ·
     rw [if_pos c9] at H;have c9b0 : decide (a1 < a0) = true:=decide_eq_true c9;clear c9;obtain rfl:=Option.some.inj H
     go_enter Try.func59,Try.ntmps59
     go_wp2_with (first|((with_reducible refine gate_callee (f:=90) rfl ?_);refine goesL_ (some 8) rfl rfl Try.func90 (by kernel_rfl) rfl #[.int .i8 a0] rfl (by (try simp only [List.map_toArray,List.map_cons,List.map_nil]);first|done|rfl|(simp only [List.length_drop,List.length_take];rfl)) ?_;(with_reducible refine (cmp_isNaN_int8.calls a0 false _ A3.out).mono ?_);rintro e w' ⟨rfl,⟨nd,rfl⟩⟩;refine ⟨_,rfl,?_⟩)|((with_reducible refine gate_callee (f:=90) rfl ?_);refine goesL_ (some 10) rfl rfl Try.func90 (by kernel_rfl) rfl #[.int .i8 a1] rfl (by (try simp only [List.map_toArray,List.map_cons,List.map_nil]);first|done|rfl|(simp only [List.length_drop,List.length_take];rfl)) ?_;(with_reducible refine (cmp_isNaN_int8.calls a1 false _ A4.out).mono ?_);rintro e w' ⟨rfl,⟨nd,rfl⟩⟩;refine ⟨_,rfl,?_⟩))
     go_ret
     exact ⟨by first|rfl|(simp;done)|(simp [*];done),by repeat (first|exact Drawn0.refl _|apply Drawn0.step)⟩
    ·
     rw [if_neg c9] at H;have c9b0 : decide (a1 < a0) = false:=decide_eq_false c9;clear c9;obtain rfl:=Option.some.inj H
     go_enter Try.func59,Try.ntmps59
     go_wp2_with (first|((with_reducible refine gate_callee (f:=90) rfl ?_);refine goesL_ (some 8) rfl rfl Try.func90 (by kernel_rfl) rfl #[.int .i8 a0] rfl (by (try simp only [List.map_toArray,List.map_cons,List.map_nil]);first|done|rfl|(simp only [List.length_drop,List.length_take];rfl)) ?_;(with_reducible refine (cmp_isNaN_int8.calls a0 false _ A3.out).mono ?_);rintro e w' ⟨rfl,⟨nd,rfl⟩⟩;refine ⟨_,rfl,?_⟩)|((with_reducible refine gate_callee (f:=90) rfl ?_);refine goesL_ (some 10) rfl rfl Try.func90 (by kernel_rfl) rfl #[.int .i8 a1] rfl (by (try simp only [List.map_toArray,List.map_cons,List.map_nil]);first|done|rfl|(simp only [List.length_drop,List.length_take];rfl)) ?_;(with_reducible refine (cmp_isNaN_int8.calls a1 false _ A4.out).mono ?_);rintro e w' ⟨rfl,⟨nd,rfl⟩⟩;refine ⟨_,rfl,?_⟩))
     go_ret
     exact ⟨by first|rfl|(simp;done)|(simp [*];done),by repeat (first|exact Drawn0.refl _|apply Drawn0.step)⟩
def impl_compareCells.f (k : Nat) (a0_0 : Int) (a0_1 : Int) (a1_0 : Int) (a1_1 : Int) : Option (Int) := (cmp_Compare_int8.f a0_1 a1_1).bind fun t272 => ((cmp_Compare_int8.f a0_0 a1_0).bind fun t273 => ((cmp_Or_int.f k (([t272, t273] : List Int))).bind fun t277 => (some t277)))
theorem impl_compareCells.mono : ∀ a0 a1 a2 a3 k, LeO (impl_compareCells.f k a0 a1 a2 a3) (impl_compareCells.f (k + 1) a0 a1 a2 a3) := by
 intro a0 a1 a2 a3 k
 unfold impl_compareCells.f
 repeat' first
   | (with_reducible exact cmp_Or_int.mono _ _)
   | (with_reducible exact LeO.refl _)
   | (with_reducible exact LeO.none _)
   | (with_reducible refine LeO.ite ?_ ?_)
   | (with_reducible refine LeO.bind ?_ (fun _=>?_))
   | exact cmp_Or_int.mono _ _
   | exact LeO.none _
   | refine LeO.ite ?_ ?_
   | refine LeO.bind ?_ (fun _=>?_)
def impl_compareCells.T1 : Bool × List (List Nat × List Nat) := (true, [([], []), ([0], [0]), ([], []), ([2], [2]), ([1, 3], [1, 3]), ([], []), ([5], [5]), ([], []), ([7], [7]), ([6, 8, 4], [6, 8]), ([4, 9], [4, 9]), ([10, 9], [10]), ([11, 11, 0, 1, 2, 3, 4, 5, 6, 7, 8, 9, 10, 11], [11])])
def impl_compareCells.B1 : List Nat := [0, 1, 0, 4, 15, 0, 32, 0, 128, 511, 1023, 2047, 4095]
theorem impl_compareCells.tab1 : rtab .any (opsOf Try.f101 1) = impl_compareCells.T1 := by kernel_rfl
theorem impl_compareCells.bits1 : waitsOk impl_compareCells.T1.2 impl_compareCells.B1 = true := by kernel_rfl
set_option maxHeartbeats 8000000 in
set_option maxRecDepth 100000 in
theorem impl_compareCells.calls (k : Nat) (a0_0 : Int) (a0_1 : Int) (a1_0 : Int) (a1_1 : Int) (r : Int) (w : World) (h : impl_compareCells.f k a0_0 a0_1 a1_0 a1_1 = some r) :
  Calls Try.prog 101 #[.agg #[.int .i8 a0_0,.int .i8 a0_1],.agg #[.int .i8 a1_0,.int .i8 a1_1]] w fun e w'=>e = .returned (.int .i64 r) ∧ Below w.heap.size w w':=by
 have hu96:=Try.underlying96;have HB:=am_ (Below.refl w.heap.size w);have H : ((cmp_Compare_int8.f a0_1 a1_1).bind fun t272=>((cmp_Compare_int8.f a0_0 a1_0).bind fun t273=>((cmp_Or_int.f k (([t272,t273] : List Int))).bind fun t277=>(some t277)))) = some r:=h;clear h;replace H:=Option.bind_eq_some_iff.mp H;obtain ⟨t272,A30,H⟩:=H;replace H : ((cmp_Compare_int8.f a0_0 a1_0).bind fun t273=>((cmp_Or_int.f k (([t272,t273] : List Int))).bind fun t277=>(some t277))) = some r:=H;have A3:=am_ A30;clear A30;replace H:=Option.bind_eq_some_iff.mp H;obtain ⟨t273,A40,H⟩:=H;replace H : ((cmp_Or_int.f k (([t272,t273] : List Int))).bind fun t277=>(some t277)) = some r:=H;have A4:=am_ A40;clear A40;obtain ⟨y274,hy274⟩ : ∃ y_ : List Int,y_ = (([t272,t273] : List Int)):=⟨_,rfl⟩
 replace H : ((cmp_Or_int.f k y274).bind fun t277=>(some t277)) = some r:=by first|(rw [hy274];with_reducible exact H)|(have H2_:=(Option.bind_some _ _).symm.trans H;rw [hy274];with_reducible exact H2_)|(have H2_:=(Option.bind_some _ _).symm.trans H;with_reducible exact H2_)|with_reducible exact H|(rw [hy274];exact H)|exact H
 have Ny274:=am_ hy274;clear hy274;replace H:=Option.bind_eq_some_iff.mp H;obtain ⟨t277,A50,H⟩:=H;replace H : (some t277) = some r:=H;have A5:=am_ A50;clear A50;obtain rfl:=Option.some.inj H
 go_enter Try.func101,Try.ntmps101
 try go_wp2_with (first|((with_reducible refine gate_dst (N:=2) rfl ?_);refine box_event ?hg (N:=2) ?hd (cs:=#[.int .i8 a0_0,.int .i8 a0_1]) (t:=96) ?hr ?_;(case hd=>rfl);(case hg=>rfl);(case hr=>first|(go_simp;done)|(go_simp;rfl));intro gb270 hg w6 hbox hb;have n0_:=am_ (bT_ (by exact HB.out) hb);have n1_:=am_ (hbox);have n2_:=am_ ((by rw [hg];exact (bZ_ (by exact HB.out)) : w.heap.size≤gb270));have n3_:=n2_;clear HB;have HB:=n0_;have BK270:=n1_;have GW270:=n2_;have GE270:=n3_;clear n0_ n1_ n2_ n3_;clear hb hbox hg)|((with_reducible refine gate_dst (N:=3) rfl ?_);refine box_event ?hg (N:=3) ?hd (cs:=#[.int .i8 a1_0,.int .i8 a1_1]) (t:=96) ?hr ?_;(case hd=>rfl);(case hg=>rfl);(case hr=>first|(go_simp;done)|(go_simp;rfl));intro gb271 hg w7 hbox hb;have n0_:=am_ (kB_ (g:=gb270) (o:=.cells #[.int .i8 a0_0,.int .i8 a0_1] 96 (0,0)) (by exact BK270.out) hb);have n1_:=am_ (bT_ (by exact HB.out) hb);have n2_:=am_ (hbox);have n3_:=am_ ((by rw [hg];exact (bZ_ (by exact HB.out)) : w.heap.size≤gb271));have n4_:=n3_;have n5_:=am_ ((by rw [hg];exact nL_ (kL_ (g:=gb270) (o:=.cells #[.int .i8 a0_0,.int .i8 a0_1] 96 (0,0)) (by exact BK270.out)) : gb270 ≠ gb271));have n6_:=am_ ((by rw [hg];exact nG_ (kL_ (g:=gb270) (o:=.cells #[.int .i8 a0_0,.int .i8 a0_1] 96 (0,0)) (by exact BK270.out)) : gb271 ≠ gb270));clear BK270;clear HB;have BK270:=n0_;have HB:=n1_;have BK271:=n2_;have GW271:=n3_;have GE271:=n4_;have NB270_271:=n5_;have NB271_270:=n6_;clear n0_ n1_ n2_ n3_ n4_ n5_ n6_;clear hb hbox hg))
 replace BK270:=am_ (kD_ BK270.out);replace BK271:=am_ (kD_ BK271.out);replace HB:=am_ (bD_ HB.out);refine start_ (n:=13) (S:=fun w'=>w'.cell? ⟨gb270,0,none⟩ = some (.int .i8 a0_0) ∧ w'.cell? ⟨gb270,1,none⟩ = some (.int .i8 a0_1) ∧ w'.cell? ⟨gb271,0,none⟩ = some (.int .i8 a1_0) ∧ w'.cell? ⟨gb271,1,none⟩ = some (.int .i8 a1_1)) (ds:=[]) (mB_ 13 0) (by kernel_rfl) rfl rfl ⟨(kC_ BK270.out 0).trans rfl,(kC_ BK270.out 1).trans rfl,(kC_ BK271.out 0).trans rfl,(kC_ BK271.out 1).trans rfl⟩ (fun hHeld=>?_);refine with_tabW impl_compareCells.tab1 impl_compareCells.bits1 (fun HT_ HW_=>?_);generalize w7.drew = w8 at BK270 BK271 HB hHeld ⊢;refine pure_ (i:=0) (N:=some 5) (v:=?_) (a':=?_) (mB_ 13 1) rfl rfl (any_of HT_.out (by kernel_rfl)) (fun _ _ _ h=>h) (Or.inl ⟨by rfl,?_⟩) ?_ ?_;rotate_left;(· intro w';go_simp;with_reducible rfl);rotate_left;(· simp only [Act.put,z1_,z2_,z3_,i64_w,i32_w];rfl)
 refine pure_ (i:=2) (N:=some 7) (v:=?_) (a':=?_) (mB_ 13 5) rfl rfl (any_of HT_.out (by kernel_rfl)) (fun _ _ _ h=>h) (Or.inl ⟨by rfl,?_⟩) ?_ ?_;rotate_left;(· intro w';go_simp;with_reducible rfl);rotate_left;(· simp only [Act.put,z1_,z2_,z3_,i64_w,i32_w];rfl)
 refine pure_ (i:=5) (N:=some 10) (v:=?_) (a':=?_) (mB_ 13 37) rfl rfl (any_of HT_.out (by kernel_rfl)) (fun _ _ _ h=>h) (Or.inl ⟨by rfl,?_⟩) ?_ ?_;rotate_left;(· intro w';go_simp;with_reducible rfl);rotate_left;(· simp only [Act.put,z1_,z2_,z3_,i64_w,i32_w];rfl)
 refine pure_ (i:=7) (N:=some 12) (v:=?_) (a':=?_) (mB_ 13 165) rfl rfl (any_of HT_.out (by kernel_rfl)) (fun _ _ _ h=>h) (Or.inl ⟨by rfl,?_⟩) ?_ ?_;rotate_left;(· intro w';go_simp;with_reducible rfl);rotate_left;(· simp only [Act.put,z1_,z2_,z3_,i64_w,i32_w];rfl)
 refine take_ (i:=1) (N:=some 6) (v:=?_) (a':=?_) (mB_ 13 167) rfl rfl (take_ofW HT_.out HW_.out (by kernel_rfl)) (fun _ _ _ h=>h) (Or.inl ⟨by rfl,?_⟩) hHeld ?_ ?_;rotate_left;(· rintro w' ⟨s0,s1,s2,s3⟩;go_simp;with_reducible rfl);rotate_left;(· simp only [Act.put,z1_,z2_,z3_,i64_w,i32_w];rfl)
 refine take_ (i:=3) (N:=some 8) (v:=?_) (a':=?_) (mB_ 13 175) rfl rfl (take_ofW HT_.out HW_.out (by kernel_rfl)) (fun _ _ _ h=>h) (Or.inl ⟨by rfl,?_⟩) hHeld ?_ ?_;rotate_left;(· rintro w' ⟨s0,s1,s2,s3⟩;go_simp;with_reducible rfl);rotate_left;(· simp only [Act.put,z1_,z2_,z3_,i64_w,i32_w];rfl)
 refine take_ (i:=6) (N:=some 11) (v:=?_) (a':=?_) (mB_ 13 239) rfl rfl (take_ofW HT_.out HW_.out (by kernel_rfl)) (fun _ _ _ h=>h) (Or.inl ⟨by rfl,?_⟩) hHeld ?_ ?_;rotate_left;(· rintro w' ⟨s0,s1,s2,s3⟩;go_simp;with_reducible rfl);rotate_left;(· simp only [Act.put,z1_,z2_,z3_,i64_w,i32_w];rfl)
 refine take_ (i:=8) (N:=some 13) (v:=?_) (a':=?_) (mB_ 13 495) rfl rfl (take_ofW HT_.out HW_.out (by kernel_rfl)) (fun _ _ _ h=>h) (Or.inl ⟨by rfl,?_⟩) hHeld ?_ ?_;rotate_left;(· rintro w' ⟨s0,s1,s2,s3⟩;go_simp;with_reducible rfl);rotate_left;(· simp only [Act.put,z1_,z2_,z3_,i64_w,i32_w];rfl)
 refine one_ (i:=4) (N:=some 9) (mB_ 13 511) rfl rfl (one_of HT_.out (by kernel_rfl)) (by decide) (fun K hK=>?_);refine goes_ Try.func59 (by kernel_rfl) rfl #[.int .i8 a0_1,.int .i8 a1_1] (by rfl) rfl rfl (by (try simp only [List.map_toArray,List.map_cons,List.map_nil]);first|done|rfl|(simp only [List.length_drop,List.length_take];rfl)) ?_
 with_reducible refine (cmp_Compare_int8.calls a0_1 a1_1 t272 _ A3.out).mono ?_
 rintro e w' ⟨rfl,⟨nd,rfl⟩⟩;refine ⟨_,rfl,?_⟩;refine hK.out _ _ ⟨(kC_ BK270.out 0).trans rfl,(kC_ BK270.out 1).trans rfl,(kC_ BK271.out 0).trans rfl,(kC_ BK271.out 1).trans rfl⟩ (fun hHeld=>?_);clear hK K;refine norm_ (a':=?_) ?_ ?_;rotate_left
 · show Act.put _ (some 9) _ = _;simp only [Act.put,z1_,z2_,z3_,i64_w,i32_w];rfl
 refine one_ (i:=9) (N:=some 14) (mB_ 13 1023) rfl rfl (one_of HT_.out (by kernel_rfl)) (by decide) (fun K hK=>?_);refine goes_ Try.func59 (by kernel_rfl) rfl #[.int .i8 a0_0,.int .i8 a1_0] (by rfl) rfl rfl (by (try simp only [List.map_toArray,List.map_cons,List.map_nil]);first|done|rfl|(simp only [List.length_drop,List.length_take];rfl)) ?_
 with_reducible refine (cmp_Compare_int8.calls a0_0 a1_0 t273 _ A4.out).mono ?_
 rintro e w' ⟨rfl,⟨nd,rfl⟩⟩;refine ⟨_,rfl,?_⟩;refine hK.out _ _ ⟨(kC_ BK270.out 0).trans rfl,(kC_ BK270.out 1).trans rfl,(kC_ BK271.out 0).trans rfl,(kC_ BK271.out 1).trans rfl⟩ (fun hHeld=>?_);clear hK K;refine norm_ (a':=?_) ?_ ?_;rotate_left
 · show Act.put _ (some 14) _ = _;simp only [Act.put,z1_,z2_,z3_,i64_w,i32_w];rfl
 refine one_ (i:=10) (N:=some 15) (mB_ 13 2047) rfl rfl (one_of HT_.out (by kernel_rfl)) (by decide) (fun K hK=>?_);refine Kd.R_lit_step (Kd.int .i64) _ 3 ?hg (N:=15) ?hd (xs:=([t272,t273] : List Int)) (inner:=[.int .i64 t272,.int .i64 t273]) (ok:=fun _=>True) (okp:=fun _=>True) ?hr ?hp (fun _ hk=>hk) trivial (Below.refl _ _) (Nat.le_refl _) (by simp) ?_;(case hd=>rfl);(case hg=>rfl);(case hr=>first|(go_simp;done)|(go_simp;rfl));(case hp=>exact (Reps.one (show Kd.M (Kd.int .i64) _ _ _ t272 [.int .i64 t272] from rfl) (Reps.one (show Kd.M (Kd.int .i64) _ _ _ t273 [.int .i64 t273] from rfl) (Reps.none _ _))));intro v275 w9 ho10 hb hg_ hnew_;clear hg_ hnew_
 (first|rw [← Ny274.out] at ho10|(simp only [Int.reduceToNat] at ho10;rw [← Ny274.out] at ho10))
 have HO276:=am_ (Kd.R_lower ho10 (bZ_ (by repeat (first|(with_reducible first|exact HB.out|apply bA_|apply bN_|apply bD_|refine bS_ ?_ GE270.out|refine bS_ ?_ GE271.out)|exact HB.out))));replace BK270:=am_ (kB_ (g:=gb270) (o:=.cells #[.int .i8 a0_0,.int .i8 a0_1] 96 (0,0)) (by exact BK270.out) hb);replace BK271:=am_ (kB_ (g:=gb271) (o:=.cells #[.int .i8 a1_0,.int .i8 a1_1] 96 (0,0)) (by exact BK271.out) hb);replace HB:=am_ (bT_ (by repeat (first|(with_reducible first|exact HB.out|apply bA_|apply bN_|apply bD_|refine bS_ ?_ GE270.out|refine bS_ ?_ GE271.out)|exact HB.out)) hb);clear hb ho10;obtain ⟨Ao11,co11,eo11⟩:=Kd.R_slice HO276.out
 (first|subst eo11|(injection eo11 with f1_ f2_ f3_;have f4_:=f1_.symm;have f5_:=f3_.symm;clear f1_ f2_ f3_;subst f4_;subst f5_))
 refine hK.out _ _ ⟨(kC_ BK270.out 0).trans rfl,(kC_ BK270.out 1).trans rfl,(kC_ BK271.out 0).trans rfl,(kC_ BK271.out 1).trans rfl⟩ (fun hHeld=>?_);clear hK K;refine norm_ (a':=?_) ?_ ?_;rotate_left
 · show Act.put _ (some 15) _ = _;simp only [Act.put,z1_,z2_,z3_,i64_w,i32_w];rfl
 refine one_ (i:=11) (N:=some 16) (mB_ 13 4095) rfl rfl (one_of HT_.out (by kernel_rfl)) (by decide) (fun K hK=>?_);refine goes_ Try.func58 (by kernel_rfl) rfl #[.slice Ao11 y274.length co11] (by rfl) rfl rfl (by (try simp only [List.map_toArray,List.map_cons,List.map_nil]);first|done|rfl|(simp only [List.length_drop,List.length_take];rfl)) ?_
 with_reducible refine (cmp_Or_int.calls k _ _ y274 t277 _ ?side1 ?side2 A5.out).mono ?_
 (case side1=>repeat (first|exact (Kd.R_reads' HO276.out).2.2|(with_reducible refine Kd.C_alloc ?_ _)|(with_reducible refine Kd.C_drewN ?_ _)|(with_reducible refine Kd.C_drew ?_)))
 (case side2=>exact (Kd.R_reads' HO276.out).2.1)
 rintro e w' ⟨rfl,⟨nd,rfl⟩⟩;refine ⟨_,rfl,?_⟩;refine hK.out _ _ ⟨(kC_ BK270.out 0).trans rfl,(kC_ BK270.out 1).trans rfl,(kC_ BK271.out 0).trans rfl,(kC_ BK271.out 1).trans rfl⟩ (fun hHeld=>?_);clear hK K;refine norm_ (a':=?_) ?_ ?_;rotate_left
 · show Act.put _ (some 16) _ = _;simp only [Act.put,z1_,z2_,z3_,i64_w,i32_w];rfl
 refine pure_ (i:=12) (N:=some 4) (v:=?_) (a':=?_) (mB_ 13 8191) rfl rfl (any_of HT_.out (by kernel_rfl)) (fun _ _ _ h=>h) (Or.inl ⟨by rfl,?_⟩) ?_ ?_;rotate_left;(· intro w';go_simp;with_reducible rfl);rotate_left;(· simp only [Act.put,z1_,z2_,z3_,i64_w,i32_w];rfl)
 refine done_ (done_of HT_.out (by kernel_rfl)) ?_
 try go_wp2
 go_ret
 exact ⟨by first|rfl|(simp [errW_none,errW_some] <;> rfl)|(simp [*,errW_none,errW_some] <;> rfl),by repeat (first|(with_reducible first|exact HB.out|apply bA_|apply bN_|apply bD_|refine bS_ ?_ GE270.out|refine bS_ ?_ GE271.out)|exact HB.out)⟩
attribute [local go_sem] max2_int min2_int max_two min_two max_three min_three max_four min_four
set_option linter.unusedVariables false
set_option linter.unusedSimpArgs false
def impl_Slab_first.f (a0_0 : Int) (a0_1 : Int) (a0_2 : Int) (a0_3 : Int) : Option (Int × Int) := some (a0_0, a0_1)
set_option maxHeartbeats 8000000 in
set_option maxRecDepth 100000 in
theorem impl_Slab_first.calls (a0_0 : Int) (a0_1 : Int) (a0_2 : Int) (a0_3 : Int) (r1 : Int) (r2 : Int) (w : World) (h : impl_Slab_first.f a0_0 a0_1 a0_2 a0_3 = some (r1, r2)) :
  Calls Try.prog 102 #[.agg #[.int .i8 a0_0,.int .i8 a0_1,.int .i8 a0_2,.int .i8 a0_3]] w fun e w'=>e = .returned (.agg #[.int .i8 r1,.int .i8 r2]) ∧ Below w.heap.size w w':=by
 have hu49:=Try.underlying49;have hu96:=Try.underlying96;have HB:=am_ (Below.refl w.heap.size w);have H : (some (a0_0,a0_1)) = some (r1,r2):=h;clear h;simp only [Option.some.injEq,Prod.mk.injEq] at H;obtain ⟨rfl,rfl⟩:=H
 go_enter Try.func102,Try.ntmps102
 go_wp2_with (first|((with_reducible refine gate_dst (N:=1) rfl ?_);refine box_event ?hg (N:=1) ?hd (cs:=#[.int .i8 a0_0,.int .i8 a0_1,.int .i8 a0_2,.int .i8 a0_3]) (t:=49) ?hr ?_;(case hd=>rfl);(case hg=>rfl);(case hr=>first|(go_simp;done)|(go_simp;rfl));intro gb278 hg w2 hbox hb;have n0_:=am_ (bT_ HB.out hb);have n1_:=am_ (hbox);have n2_:=am_ ((by rw [hg];exact (bZ_ HB.out) : w.heap.size≤gb278));have n3_:=n2_;clear HB;have HB:=n0_;have BK278:=n1_;have GW278:=n2_;have GE278:=n3_;clear n0_ n1_ n2_ n3_;clear hb hbox hg)|((with_reducible refine gate_dst (N:=2) rfl ?_);refine box_event ?hg (N:=2) ?hd (cs:=#[.int .i8 0,.int .i8 0]) (t:=96) ?hr ?_;(case hd=>rfl);(case hg=>rfl);(case hr=>first|(go_simp;done)|(go_simp;rfl));intro gb279 hg w3 hbox hb;have n0_:=am_ (kB_ BK278.out hb);have n1_:=am_ (bT_ HB.out hb);have n2_:=am_ (hbox);have n3_:=am_ ((by rw [hg];exact (bZ_ HB.out) : w.heap.size≤gb279));have n4_:=n3_;have n5_:=am_ ((by rw [hg];exact nL_ (kL_ BK278.out) : gb278 ≠ gb279));have n6_:=am_ ((by rw [hg];exact nG_ (kL_ BK278.out) : gb279 ≠ gb278));clear BK278;clear HB;have BK278:=n0_;have HB:=n1_;have BK279:=n2_;have GW279:=n3_;have GE279:=n4_;have NB278_279:=n5_;have NB279_278:=n6_;clear n0_ n1_ n2_ n3_ n4_ n5_ n6_;clear hb hbox hg;have hnb4:=NB278_279.out;have hnc4:=NB279_278.out;have hcz5_0 : w3.cell? ⟨gb278,0,none⟩ = some (.int .i8 a0_0):=(kC_ BK278.out 0).trans rfl;have hcz5_1 : w3.cell? ⟨gb278,1,none⟩ = some (.int .i8 a0_1):=(kC_ BK278.out 1).trans rfl;have hcz5_2 : w3.cell? ⟨gb278,2,none⟩ = some (.int .i8 a0_2):=(kC_ BK278.out 2).trans rfl;have hcz5_3 : w3.cell? ⟨gb278,3,none⟩ = some (.int .i8 a0_3):=(kC_ BK278.out 3).trans rfl;have hfz5_0:=kF_ BK278.out 0;have hfz5_1:=kF_ BK278.out 1;have hfz5_2:=kF_ BK278.out 2;have hfz5_3:=kF_ BK278.out 3;have hcz6_0 : w3.cell? ⟨gb279,0,none⟩ = some (.int .i8 0):=(kC_ BK279.out 0).trans rfl;have hcz6_1 : w3.cell? ⟨gb279,1,none⟩ = some (.int .i8 0):=(kC_ BK279.out 1).trans rfl;have hfz6_0:=kF_ BK279.out 0;have hfz6_1:=kF_ BK279.out 1))
 refine bodyPost_ret (results_cell_row rfl _ _ gb279 96 #[.int .i8 a0_0,.int .i8 a0_1] (0,0) _ rfl (by (with_reducible repeat (first|apply kN_|apply kD_|apply kA_));refine blk_put (cs:=#[.int .i8 a0_0,.int .i8 0]) ?_ 1 _ rfl;(with_reducible repeat (first|apply kN_|apply kD_|apply kA_));refine blk_put (cs:=#[.int .i8 0,.int .i8 0]) ?_ 0 _ rfl;(with_reducible repeat (first|apply kN_|apply kD_|apply kA_));exact BK279.out) Try.underlying96 rfl (by kernel_rfl)) rfl ?_;exact ⟨by first|rfl|(simp [errW_none,errW_some] <;> rfl)|(simp [*,errW_none,errW_some] <;> rfl),by repeat (first|(with_reducible first|exact HB.out|apply bA_|apply bN_|apply bD_|refine bS_ ?_ GE278.out|refine bS_ ?_ GE279.out)|exact HB.out)⟩
def impl_compareSlabs.f (k : Nat) (a0_0 : Int) (a0_1 : Int) (a0_2 : Int) (a0_3 : Int) (a1_0 : Int) (a1_1 : Int) (a1_2 : Int) (a1_3 : Int) : Option (Int) := (impl_Slab_first.f a0_0 a0_1 a0_2 a0_3).bind fun bt282 => ((impl_Slab_first.f a1_0 a1_1 a1_2 a1_3).bind fun bt284 => ((impl_compareCells.f k bt282.1 bt282.2 bt284.1 bt284.2).bind fun t286 => (some t286)))
theorem impl_compareSlabs.mono : ∀ a0 a1 a2 a3 a4 a5 a6 a7 k, LeO (impl_compareSlabs.f k a0 a1 a2 a3 a4 a5 a6 a7) (impl_compareSlabs.f (k + 1) a0 a1 a2 a3 a4 a5 a6 a7) := by
 intro a0 a1 a2 a3 a4 a5 a6 a7 k
 unfold impl_compareSlabs.f
 repeat' first
   | (with_reducible exact impl_compareCells.mono _ _ _ _ _)
   | (with_reducible exact LeO.refl _)
   | (with_reducible exact LeO.none _)
   | (with_reducible refine LeO.ite ?_ ?_)
   | (with_reducible refine LeO.bind ?_ (fun _=>?_))
   | exact impl_compareCells.mono _ _ _ _ _
   | exact LeO.none _
   | refine LeO.ite ?_ ?_
   | refine LeO.bind ?_ (fun _=>?_)
set_option maxHeartbeats 8000000 in
set_option maxRecDepth 100000 in
theorem impl_compareSlabs.calls (k : Nat) (a0_0 : Int) (a0_1 : Int) (a0_2 : Int) (a0_3 : Int) (a1_0 : Int) (a1_1 : Int) (a1_2 : Int) (a1_3 : Int) (r : Int) (w : World) (h : impl_compareSlabs.f k a0_0 a0_1 a0_2 a0_3 a1_0 a1_1 a1_2 a1_3 = some r) :
  Calls Try.prog 84 #[.agg #[.int .i8 a0_0,.int .i8 a0_1,.int .i8 a0_2,.int .i8 a0_3],.agg #[.int .i8 a1_0,.int .i8 a1_1,.int .i8 a1_2,.int .i8 a1_3]] w fun e w'=>e = .returned (.int .i64 r) ∧ Below w.heap.size w w':=by
 have hu49:=Try.underlying49;have HB:=am_ (Below.refl w.heap.size w);have H : ((impl_Slab_first.f a0_0 a0_1 a0_2 a0_3).bind fun bt282=>((impl_Slab_first.f a1_0 a1_1 a1_2 a1_3).bind fun bt284=>((impl_compareCells.f k bt282.1 bt282.2 bt284.1 bt284.2).bind fun t286=>(some t286)))) = some r:=h;clear h;replace H:=Option.bind_eq_some_iff.mp H;obtain ⟨⟨t282,t283⟩,A30,H⟩:=H;replace H : ((impl_Slab_first.f a1_0 a1_1 a1_2 a1_3).bind fun bt284=>((impl_compareCells.f k t282 t283 bt284.1 bt284.2).bind fun t286=>(some t286))) = some r:=H;have A3:=am_ A30;clear A30;replace H:=Option.bind_eq_some_iff.mp H;obtain ⟨⟨t284,t285⟩,A40,H⟩:=H;replace H : ((impl_compareCells.f k t282 t283 t284 t285).bind fun t286=>(some t286)) = some r:=H;have A4:=am_ A40;clear A40;replace H:=Option.bind_eq_some_iff.mp H;obtain ⟨t286,A50,H⟩:=H;replace H : (some t286) = some r:=H;have A5:=am_ A50;clear A50;obtain rfl:=Option.some.inj H
 go_enter Try.func84,Try.ntmps84
 try go_wp2_with (first|((with_reducible refine gate_dst (N:=2) rfl ?_);refine box_event ?hg (N:=2) ?hd (cs:=#[.int .i8 a0_0,.int .i8 a0_1,.int .i8 a0_2,.int .i8 a0_3]) (t:=49) ?hr ?_;(case hd=>rfl);(case hg=>rfl);(case hr=>first|(go_simp;done)|(go_simp;rfl));intro gb280 hg w6 hbox hb;have n0_:=am_ (bT_ HB.out hb);have n1_:=am_ (hbox);have n2_:=am_ ((by rw [hg];exact (bZ_ HB.out) : w.heap.size≤gb280));have n3_:=n2_;clear HB;have HB:=n0_;have BK280:=n1_;have GW280:=n2_;have GE280:=n3_;clear n0_ n1_ n2_ n3_;clear hb hbox hg)|((with_reducible refine gate_dst (N:=3) rfl ?_);refine box_event ?hg (N:=3) ?hd (cs:=#[.int .i8 a1_0,.int .i8 a1_1,.int .i8 a1_2,.int .i8 a1_3]) (t:=49) ?hr ?_;(case hd=>rfl);(case hg=>rfl);(case hr=>first|(go_simp;done)|(go_simp;rfl));intro gb281 hg w7 hbox hb;have n0_:=am_ (kB_ BK280.out hb);have n1_:=am_ (bT_ HB.out hb);have n2_:=am_ (hbox);have n3_:=am_ ((by rw [hg];exact (bZ_ HB.out) : w.heap.size≤gb281));have n4_:=n3_;have n5_:=am_ ((by rw [hg];exact nL_ (kL_ BK280.out) : gb280 ≠ gb281));have n6_:=am_ ((by rw [hg];exact nG_ (kL_ BK280.out) : gb281 ≠ gb280));clear BK280;clear HB;have BK280:=n0_;have HB:=n1_;have BK281:=n2_;have GW281:=n3_;have GE281:=n4_;have NB280_281:=n5_;have NB281_280:=n6_;clear n0_ n1_ n2_ n3_ n4_ n5_ n6_;clear hb hbox hg))
 replace BK280:=am_ (kD_ BK280.out);replace BK281:=am_ (kD_ BK281.out);replace HB:=am_ (bD_ HB.out);refine start_ (n:=6) (S:=fun w'=>w'.cell? ⟨gb280,0,none⟩ = some (.int .i8 a0_0) ∧ w'.cell? ⟨gb280,1,none⟩ = some (.int .i8 a0_1) ∧ w'.cell? ⟨gb280,2,none⟩ = some (.int .i8 a0_2) ∧ w'.cell? ⟨gb280,3,none⟩ = some (.int .i8 a0_3) ∧ w'.cell? ⟨gb281,0,none⟩ = some (.int .i8 a1_0) ∧ w'.cell? ⟨gb281,1,none⟩ = some (.int .i8 a1_1) ∧ w'.cell? ⟨gb281,2,none⟩ = some (.int .i8 a1_2) ∧ w'.cell? ⟨gb281,3,none⟩ = some (.int .i8 a1_3)) (ds:=[]) (mB_ 6 0) (by kernel_rfl) rfl rfl ⟨(kC_ BK280.out 0).trans rfl,(kC_ BK280.out 1).trans rfl,(kC_ BK280.out 2).trans rfl,(kC_ BK280.out 3).trans rfl,(kC_ BK281.out 0).trans rfl,(kC_ BK281.out 1).trans rfl,(kC_ BK281.out 2).trans rfl,(kC_ BK281.out 3).trans rfl⟩ (fun hHeld=>?_);generalize w7.drew = w8 at BK280 BK281 HB hHeld ⊢;refine take_ (i:=0) (N:=some 5) (v:=?_) (a':=?_) (mB_ 6 1) rfl rfl (by kernel_rfl) (fun _ _ _ h=>h) (Or.inl ⟨by rfl,?_⟩) hHeld ?_ ?_;rotate_left;(· rintro w' ⟨s0,s1,s2,s3,s4,s5,s6,s7⟩;go_simp;with_reducible rfl);rotate_left;(· simp only [Act.put,z1_,z2_,z3_,i64_w,i32_w];rfl)
 refine take_ (i:=2) (N:=some 7) (v:=?_) (a':=?_) (mB_ 6 5) rfl rfl (by kernel_rfl) (fun _ _ _ h=>h) (Or.inl ⟨by rfl,?_⟩) hHeld ?_ ?_;rotate_left;(· rintro w' ⟨s0,s1,s2,s3,s4,s5,s6,s7⟩;go_simp;with_reducible rfl);rotate_left;(· simp only [Act.put,z1_,z2_,z3_,i64_w,i32_w];rfl)
 refine one_ (i:=1) (N:=some 6) (mB_ 6 7) rfl rfl (by kernel_rfl) (by decide) (fun K hK=>?_);refine goes_ Try.func102 (by kernel_rfl) rfl #[.agg #[.int .i8 a0_0,.int .i8 a0_1,.int .i8 a0_2,.int .i8 a0_3]] (by rfl) rfl rfl (by (try simp only [List.map_toArray,List.map_cons,List.map_nil]);first|done|rfl|(simp only [List.length_drop,List.length_take];rfl)) ?_
 with_reducible refine (impl_Slab_first.calls a0_0 a0_1 a0_2 a0_3 t282 t283 _ A3.out).mono ?_
 rintro e w9 ⟨rfl,hb⟩;refine ⟨_,rfl,?_⟩;replace BK280:=am_ (kB_ BK280.out hb);replace BK281:=am_ (kB_ BK281.out hb);replace HB:=am_ (bT_ HB.out hb);(try clear hb hb2 hk hi);refine hK.out _ _ ⟨(kC_ BK280.out 0).trans rfl,(kC_ BK280.out 1).trans rfl,(kC_ BK280.out 2).trans rfl,(kC_ BK280.out 3).trans rfl,(kC_ BK281.out 0).trans rfl,(kC_ BK281.out 1).trans rfl,(kC_ BK281.out 2).trans rfl,(kC_ BK281.out 3).trans rfl⟩ (fun hHeld=>?_);clear hK K;refine norm_ (a':=?_) ?_ ?_;rotate_left
 · show Act.put _ (some 6) _ = _;simp only [Act.put,z1_,z2_,z3_,i64_w,i32_w];rfl
 refine one_ (i:=3) (N:=some 8) (mB_ 6 15) rfl rfl (by kernel_rfl) (by decide) (fun K hK=>?_);refine goes_ Try.func102 (by kernel_rfl) rfl #[.agg #[.int .i8 a1_0,.int .i8 a1_1,.int .i8 a1_2,.int .i8 a1_3]] (by rfl) rfl rfl (by (try simp only [List.map_toArray,List.map_cons,List.map_nil]);first|done|rfl|(simp only [List.length_drop,List.length_take];rfl)) ?_
 with_reducible refine (impl_Slab_first.calls a1_0 a1_1 a1_2 a1_3 t284 t285 _ A4.out).mono ?_
 rintro e w10 ⟨rfl,hb⟩;refine ⟨_,rfl,?_⟩;replace BK280:=am_ (kB_ BK280.out hb);replace BK281:=am_ (kB_ BK281.out hb);replace HB:=am_ (bT_ HB.out hb);(try clear hb hb2 hk hi);refine hK.out _ _ ⟨(kC_ BK280.out 0).trans rfl,(kC_ BK280.out 1).trans rfl,(kC_ BK280.out 2).trans rfl,(kC_ BK280.out 3).trans rfl,(kC_ BK281.out 0).trans rfl,(kC_ BK281.out 1).trans rfl,(kC_ BK281.out 2).trans rfl,(kC_ BK281.out 3).trans rfl⟩ (fun hHeld=>?_);clear hK K;refine norm_ (a':=?_) ?_ ?_;rotate_left
 · show Act.put _ (some 8) _ = _;simp only [Act.put,z1_,z2_,z3_,i64_w,i32_w];rfl
 refine one_ (i:=4) (N:=some 9) (mB_ 6 31) rfl rfl (by kernel_rfl) (by decide) (fun K hK=>?_);refine goes_ Try.func101 (by kernel_rfl) rfl #[.agg #[.int .i8 t282,.int .i8 t283],.agg #[.int .i8 t284,.int .i8 t285]] (by rfl) rfl rfl (by (try simp only [List.map_toArray,List.map_cons,List.map_nil]);first|done|rfl|(simp only [List.length_drop,List.length_take];rfl)) ?_
 with_reducible refine (impl_compareCells.calls k t282 t283 t284 t285 t286 _ A5.out).mono ?_
 rintro e w11 ⟨rfl,hb⟩;refine ⟨_,rfl,?_⟩;replace BK280:=am_ (kB_ BK280.out hb);replace BK281:=am_ (kB_ BK281.out hb);replace HB:=am_ (bT_ HB.out hb);(try clear hb hb2 hk hi);refine hK.out _ _ ⟨(kC_ BK280.out 0).trans rfl,(kC_ BK280.out 1).trans rfl,(kC_ BK280.out 2).trans rfl,(kC_ BK280.out 3).trans rfl,(kC_ BK281.out 0).trans rfl,(kC_ BK281.out 1).trans rfl,(kC_ BK281.out 2).trans rfl,(kC_ BK281.out 3).trans rfl⟩ (fun hHeld=>?_);clear hK K;refine norm_ (a':=?_) ?_ ?_;rotate_left
 · show Act.put _ (some 9) _ = _;simp only [Act.put,z1_,z2_,z3_,i64_w,i32_w];rfl
 refine pure_ (i:=5) (N:=some 4) (v:=?_) (a':=?_) (mB_ 6 63) rfl rfl (by kernel_rfl) (fun _ _ _ h=>h) (Or.inl ⟨by rfl,?_⟩) ?_ ?_;rotate_left;(· intro w';go_simp;with_reducible rfl);rotate_left;(· simp only [Act.put,z1_,z2_,z3_,i64_w,i32_w];rfl)
 refine done_ (by kernel_rfl) ?_
 try go_wp2
 go_ret
 exact ⟨by first|rfl|(simp [errW_none,errW_some] <;> rfl)|(simp [*,errW_none,errW_some] <;> rfl),by repeat (first|(with_reducible first|exact HB.out|apply bA_|apply bN_|apply bD_|refine bS_ ?_ GE280.out|refine bS_ ?_ GE281.out)|exact HB.out)⟩
attribute [local go_sem] max2_int min2_int max_two min_two max_three min_three max_four min_four
set_option linter.unusedVariables false
set_option linter.unusedSimpArgs false
namespace Srt
set_option maxHeartbeats 8000000 in
set_option maxRecDepth 100000 in
theorem impl_compareCells.calls (k : Nat) (a0_0 : Int) (a0_1 : Int) (a1_0 : Int) (a1_1 : Int) (r : Int) (w : World) (h : impl_compareCells.f k a0_0 a0_1 a1_0 a1_1 = some r) :
  Calls Try.prog 101 #[.agg #[.int .i8 a0_0,.int .i8 a0_1],.agg #[.int .i8 a1_0,.int .i8 a1_1]] w fun e w'=>e = .returned (.int .i64 r) ∧ Below w.heap.size w w':=by
 have hu96:=Try.underlying96;have HB:=am_ (Below.refl w.heap.size w);have H : ((cmp_Compare_int8.f a0_1 a1_1).bind fun t272=>((cmp_Compare_int8.f a0_0 a1_0).bind fun t273=>((cmp_Or_int.f k (([t272,t273] : List Int))).bind fun t277=>(some t277)))) = some r:=h;clear h;replace H:=Option.bind_eq_some_iff.mp H;obtain ⟨t272,A30,H⟩:=H;replace H : ((cmp_Compare_int8.f a0_0 a1_0).bind fun t273=>((cmp_Or_int.f k (([t272,t273] : List Int))).bind fun t277=>(some t277))) = some r:=H;have A3:=am_ A30;clear A30;replace H:=Option.bind_eq_some_iff.mp H;obtain ⟨t273,A40,H⟩:=H;replace H : ((cmp_Or_int.f k (([t272,t273] : List Int))).bind fun t277=>(some t277)) = some r:=H;have A4:=am_ A40;clear A40;obtain ⟨y274,hy274⟩ : ∃ y_ : List Int,y_ = (([t272,t273] : List Int)):=⟨_,rfl⟩
 replace H : ((cmp_Or_int.f k y274).bind fun t277=>(some t277)) = some r:=by first|(rw [hy274];with_reducible exact H)|(have H2_:=(Option.bind_some _ _).symm.trans H;rw [hy274];with_reducible exact H2_)|(have H2_:=(Option.bind_some _ _).symm.trans H;with_reducible exact H2_)|with_reducible exact H|(rw [hy274];exact H)|exact H
 have Ny274:=am_ hy274;clear hy274;replace H:=Option.bind_eq_some_iff.mp H;obtain ⟨t277,A50,H⟩:=H;replace H : (some t277) = some r:=H;have A5:=am_ A50;clear A50;obtain rfl:=Option.some.inj H
 go_enter Try.func101,Try.ntmps101
 try go_wp2_with (first|((with_reducible refine gate_dst (N:=2) rfl ?_);refine box_event ?hg (N:=2) ?hd (cs:=#[.int .i8 a0_0,.int .i8 a0_1]) (t:=96) ?hr ?_;(case hd=>rfl);(case hg=>rfl);(case hr=>first|(go_simp;done)|(go_simp;rfl));intro gb270 hg w6 hbox hb;have n0_:=am_ (below_step (by exact HB.out) hb);have n1_:=am_ (hbox);have n2_:=am_ ((by rw [hg];exact (below_size (by exact HB.out)) : w.heap.size≤gb270));have n3_:=n2_;clear HB;have HB:=n0_;have BK270:=n1_;have GW270:=n2_;have GE270:=n3_;clear n0_ n1_ n2_ n3_;clear hb hbox hg)|((with_reducible refine gate_dst (N:=3) rfl ?_);refine box_event ?hg (N:=3) ?hd (cs:=#[.int .i8 a1_0,.int .i8 a1_1]) (t:=96) ?hr ?_;(case hd=>rfl);(case hg=>rfl);(case hr=>first|(go_simp;done)|(go_simp;rfl));intro gb271 hg w7 hbox hb;have n0_:=am_ (blk_below (g:=gb270) (o:=.cells #[.int .i8 a0_0,.int .i8 a0_1] 96 (0,0)) (by exact BK270.out) hb);have n1_:=am_ (below_step (by exact HB.out) hb);have n2_:=am_ (hbox);have n3_:=am_ ((by rw [hg];exact (below_size (by exact HB.out)) : w.heap.size≤gb271));have n4_:=n3_;have n5_:=am_ ((by rw [hg];exact nL_ (kL_ (g:=gb270) (o:=.cells #[.int .i8 a0_0,.int .i8 a0_1] 96 (0,0)) (by exact BK270.out)) : gb270 ≠ gb271));have n6_:=am_ ((by rw [hg];exact nG_ (kL_ (g:=gb270) (o:=.cells #[.int .i8 a0_0,.int .i8 a0_1] 96 (0,0)) (by exact BK270.out)) : gb271 ≠ gb270));clear BK270;clear HB;have BK270:=n0_;have HB:=n1_;have BK271:=n2_;have GW271:=n3_;have GE271:=n4_;have NB270_271:=n5_;have NB271_270:=n6_;clear n0_ n1_ n2_ n3_ n4_ n5_ n6_;clear hb hbox hg))
 replace BK270:=am_ (kD_ BK270.out);replace BK271:=am_ (kD_ BK271.out);replace HB:=am_ (below_drew1 HB.out);refine start_ (n:=13) (S:=fun w'=>w'.cell? ⟨gb270,0,none⟩ = some (.int .i8 a0_0) ∧ w'.cell? ⟨gb270,1,none⟩ = some (.int .i8 a0_1) ∧ w'.cell? ⟨gb271,0,none⟩ = some (.int .i8 a1_0) ∧ w'.cell? ⟨gb271,1,none⟩ = some (.int .i8 a1_1)) (ds:=[]) (mB_ 13 0) (by kernel_rfl) rfl rfl ⟨(kC_ BK270.out 0).trans rfl,(kC_ BK270.out 1).trans rfl,(kC_ BK271.out 0).trans rfl,(kC_ BK271.out 1).trans rfl⟩ (fun hHeld=>?_);refine with_tabW impl_compareCells.tab1 impl_compareCells.bits1 (fun HT_ HW_=>?_);generalize w7.drew = w8 at BK270 BK271 HB hHeld ⊢;refine pure_ (i:=0) (N:=some 5) (v:=?_) (a':=?_) (mB_ 13 1) rfl rfl (any_of HT_.out (by kernel_rfl)) (fun _ _ _ h=>h) (Or.inl ⟨by rfl,?_⟩) ?_ ?_;rotate_left;(· intro w';go_simp;with_reducible rfl);rotate_left;(· simp only [Act.put,z1_,z2_,z3_,i64_w,i32_w];rfl)
 refine pure_ (i:=2) (N:=some 7) (v:=?_) (a':=?_) (mB_ 13 5) rfl rfl (any_of HT_.out (by kernel_rfl)) (fun _ _ _ h=>h) (Or.inl ⟨by rfl,?_⟩) ?_ ?_;rotate_left;(· intro w';go_simp;with_reducible rfl);rotate_left;(· simp only [Act.put,z1_,z2_,z3_,i64_w,i32_w];rfl)
 refine pure_ (i:=5) (N:=some 10) (v:=?_) (a':=?_) (mB_ 13 37) rfl rfl (any_of HT_.out (by kernel_rfl)) (fun _ _ _ h=>h) (Or.inl ⟨by rfl,?_⟩) ?_ ?_;rotate_left;(· intro w';go_simp;with_reducible rfl);rotate_left;(· simp only [Act.put,z1_,z2_,z3_,i64_w,i32_w];rfl)
 refine pure_ (i:=7) (N:=some 12) (v:=?_) (a':=?_) (mB_ 13 165) rfl rfl (any_of HT_.out (by kernel_rfl)) (fun _ _ _ h=>h) (Or.inl ⟨by rfl,?_⟩) ?_ ?_;rotate_left;(· intro w';go_simp;with_reducible rfl);rotate_left;(· simp only [Act.put,z1_,z2_,z3_,i64_w,i32_w];rfl)
 refine take_ (i:=1) (N:=some 6) (v:=?_) (a':=?_) (mB_ 13 167) rfl rfl (take_ofW HT_.out HW_.out (by kernel_rfl)) (fun _ _ _ h=>h) (Or.inl ⟨by rfl,?_⟩) hHeld ?_ ?_;rotate_left;(· rintro w' ⟨s0,s1,s2,s3⟩;go_simp;with_reducible rfl);rotate_left;(· simp only [Act.put,z1_,z2_,z3_,i64_w,i32_w];rfl)
 refine take_ (i:=3) (N:=some 8) (v:=?_) (a':=?_) (mB_ 13 175) rfl rfl (take_ofW HT_.out HW_.out (by kernel_rfl)) (fun _ _ _ h=>h) (Or.inl ⟨by rfl,?_⟩) hHeld ?_ ?_;rotate_left;(· rintro w' ⟨s0,s1,s2,s3⟩;go_simp;with_reducible rfl);rotate_left;(· simp only [Act.put,z1_,z2_,z3_,i64_w,i32_w];rfl)
 refine take_ (i:=6) (N:=some 11) (v:=?_) (a':=?_) (mB_ 13 239) rfl rfl (take_ofW HT_.out HW_.out (by kernel_rfl)) (fun _ _ _ h=>h) (Or.inl ⟨by rfl,?_⟩) hHeld ?_ ?_;rotate_left;(· rintro w' ⟨s0,s1,s2,s3⟩;go_simp;with_reducible rfl);rotate_left;(· simp only [Act.put,z1_,z2_,z3_,i64_w,i32_w];rfl)
 refine take_ (i:=8) (N:=some 13) (v:=?_) (a':=?_) (mB_ 13 495) rfl rfl (take_ofW HT_.out HW_.out (by kernel_rfl)) (fun _ _ _ h=>h) (Or.inl ⟨by rfl,?_⟩) hHeld ?_ ?_;rotate_left;(· rintro w' ⟨s0,s1,s2,s3⟩;go_simp;with_reducible rfl);rotate_left;(· simp only [Act.put,z1_,z2_,z3_,i64_w,i32_w];rfl)
 refine one_ (i:=4) (N:=some 9) (mB_ 13 511) rfl rfl (one_of HT_.out (by kernel_rfl)) (by decide) (fun K hK=>?_);refine goes_ Try.func59 (by kernel_rfl) rfl #[.int .i8 a0_1,.int .i8 a1_1] (by rfl) rfl rfl (by (try simp only [List.map_toArray,List.map_cons,List.map_nil]);first|done|rfl|(simp only [List.length_drop,List.length_take];rfl)) ?_
 with_reducible refine (cmp_Compare_int8.calls a0_1 a1_1 t272 _ A3.out).mono ?_
 rintro e w' ⟨rfl,⟨nd,rfl⟩⟩;refine ⟨_,rfl,?_⟩;refine hK.out _ _ ⟨(kC_ BK270.out 0).trans rfl,(kC_ BK270.out 1).trans rfl,(kC_ BK271.out 0).trans rfl,(kC_ BK271.out 1).trans rfl⟩ (fun hHeld=>?_);clear hK K;refine norm_ (a':=?_) ?_ ?_;rotate_left
 · show Act.put _ (some 9) _ = _;simp only [Act.put,z1_,z2_,z3_,i64_w,i32_w];rfl
 refine one_ (i:=9) (N:=some 14) (mB_ 13 1023) rfl rfl (one_of HT_.out (by kernel_rfl)) (by decide) (fun K hK=>?_);refine goes_ Try.func59 (by kernel_rfl) rfl #[.int .i8 a0_0,.int .i8 a1_0] (by rfl) rfl rfl (by (try simp only [List.map_toArray,List.map_cons,List.map_nil]);first|done|rfl|(simp only [List.length_drop,List.length_take];rfl)) ?_
 with_reducible refine (cmp_Compare_int8.calls a0_0 a1_0 t273 _ A4.out).mono ?_
 rintro e w' ⟨rfl,⟨nd,rfl⟩⟩;refine ⟨_,rfl,?_⟩;refine hK.out _ _ ⟨(kC_ BK270.out 0).trans rfl,(kC_ BK270.out 1).trans rfl,(kC_ BK271.out 0).trans rfl,(kC_ BK271.out 1).trans rfl⟩ (fun hHeld=>?_);clear hK K;refine norm_ (a':=?_) ?_ ?_;rotate_left
 · show Act.put _ (some 14) _ = _;simp only [Act.put,z1_,z2_,z3_,i64_w,i32_w];rfl
 refine one_ (i:=10) (N:=some 15) (mB_ 13 2047) rfl rfl (one_of HT_.out (by kernel_rfl)) (by decide) (fun K hK=>?_);refine Kd.R_lit_step (Kd.int .i64) _ 3 ?hg (N:=15) ?hd (xs:=([t272,t273] : List Int)) (inner:=[.int .i64 t272,.int .i64 t273]) (ok:=fun _=>True) (okp:=fun _=>True) ?hr ?hp (fun _ hk=>hk) trivial (Below.refl _ _) (Nat.le_refl _) (by simp) ?_;(case hd=>rfl);(case hg=>rfl);(case hr=>first|(go_simp;done)|(go_simp;rfl));(case hp=>exact (Reps.one (show Kd.M (Kd.int .i64) _ _ _ t272 [.int .i64 t272] from rfl) (Reps.one (show Kd.M (Kd.int .i64) _ _ _ t273 [.int .i64 t273] from rfl) (Reps.none _ _))));intro v275 w9 ho10 hb hg_ hnew_;clear hg_ hnew_
 (first|rw [← Ny274.out] at ho10|(simp only [Int.reduceToNat] at ho10;rw [← Ny274.out] at ho10))
 have HO276:=am_ (Kd.R_lower ho10 (below_size (by repeat (first|(with_reducible first|exact HB.out|apply below_alloc|apply pw_below_drewN|apply below_drew1|refine below_set ?_ GE270.out|refine below_set ?_ GE271.out)|exact HB.out))));replace BK270:=am_ (blk_below (g:=gb270) (o:=.cells #[.int .i8 a0_0,.int .i8 a0_1] 96 (0,0)) (by exact BK270.out) hb);replace BK271:=am_ (blk_below (g:=gb271) (o:=.cells #[.int .i8 a1_0,.int .i8 a1_1] 96 (0,0)) (by exact BK271.out) hb);replace HB:=am_ (below_step (by repeat (first|(with_reducible first|exact HB.out|apply below_alloc|apply pw_below_drewN|apply below_drew1|refine below_set ?_ GE270.out|refine below_set ?_ GE271.out)|exact HB.out)) hb);clear hb ho10;obtain ⟨Ao11,co11,eo11⟩:=Kd.R_slice HO276.out
 (first|subst eo11|(injection eo11 with f1_ f2_ f3_;have f4_:=f1_.symm;have f5_:=f3_.symm;clear f1_ f2_ f3_;subst f4_;subst f5_))
 refine hK.out _ _ ⟨(kC_ BK270.out 0).trans rfl,(kC_ BK270.out 1).trans rfl,(kC_ BK271.out 0).trans rfl,(kC_ BK271.out 1).trans rfl⟩ (fun hHeld=>?_);clear hK K;refine norm_ (a':=?_) ?_ ?_;rotate_left
 · show Act.put _ (some 15) _ = _;simp only [Act.put,z1_,z2_,z3_,i64_w,i32_w];rfl
 refine one_ (i:=11) (N:=some 16) (mB_ 13 4095) rfl rfl (one_of HT_.out (by kernel_rfl)) (by decide) (fun K hK=>?_);refine goes_ Try.func58 (by kernel_rfl) rfl #[.slice Ao11 y274.length co11] (by rfl) rfl rfl (by (try simp only [List.map_toArray,List.map_cons,List.map_nil]);first|done|rfl|(simp only [List.length_drop,List.length_take];rfl)) ?_
 with_reducible refine (cmp_Or_int.calls k _ _ y274 t277 _ ?side1 ?side2 A5.out).mono ?_
 (case side1=>repeat (first|exact (Kd.R_reads' HO276.out).2.2|(with_reducible refine Kd.C_alloc ?_ _)|(with_reducible refine Kd.C_drewN ?_ _)|(with_reducible refine Kd.C_drew ?_)))
 (case side2=>exact (Kd.R_reads' HO276.out).2.1)
 rintro e w' ⟨rfl,⟨nd,rfl⟩⟩;refine ⟨_,rfl,?_⟩;refine hK.out _ _ ⟨(kC_ BK270.out 0).trans rfl,(kC_ BK270.out 1).trans rfl,(kC_ BK271.out 0).trans rfl,(kC_ BK271.out 1).trans rfl⟩ (fun hHeld=>?_);clear hK K;refine norm_ (a':=?_) ?_ ?_;rotate_left
 · show Act.put _ (some 16) _ = _;simp only [Act.put,z1_,z2_,z3_,i64_w,i32_w];rfl
 refine pure_ (i:=12) (N:=some 4) (v:=?_) (a':=?_) (mB_ 13 8191) rfl rfl (any_of HT_.out (by kernel_rfl)) (fun _ _ _ h=>h) (Or.inl ⟨by rfl,?_⟩) ?_ ?_;rotate_left;(· intro w';go_simp;with_reducible rfl);rotate_left;(· simp only [Act.put,z1_,z2_,z3_,i64_w,i32_w];rfl)
 refine done_ (done_of HT_.out (by kernel_rfl)) ?_
 try go_wp2
 go_ret
 exact ⟨by first|rfl|(simp [errW_none,errW_some] <;> rfl)|(simp [*,errW_none,errW_some] <;> rfl),by repeat (first|(with_reducible first|exact HB.out|apply below_alloc|apply pw_below_drewN|apply below_drew1|refine below_set ?_ GE270.out|refine below_set ?_ GE271.out)|exact HB.out)⟩
set_option maxHeartbeats 8000000 in
set_option maxRecDepth 100000 in
theorem impl_Slab_first.calls (a0_0 : Int) (a0_1 : Int) (a0_2 : Int) (a0_3 : Int) (r1 : Int) (r2 : Int) (w : World) (h : impl_Slab_first.f a0_0 a0_1 a0_2 a0_3 = some (r1, r2)) :
  Calls Try.prog 102 #[.agg #[.int .i8 a0_0,.int .i8 a0_1,.int .i8 a0_2,.int .i8 a0_3]] w fun e w'=>e = .returned (.agg #[.int .i8 r1,.int .i8 r2]) ∧ Below w.heap.size w w':=by
 have hu49:=Try.underlying49;have hu96:=Try.underlying96;have HB:=am_ (Below.refl w.heap.size w);have H : (some (a0_0,a0_1)) = some (r1,r2):=h;clear h;simp only [Option.some.injEq,Prod.mk.injEq] at H;obtain ⟨rfl,rfl⟩:=H
 go_enter Try.func102,Try.ntmps102
 go_wp2_with (first|((with_reducible refine gate_dst (N:=1) rfl ?_);refine box_event ?hg (N:=1) ?hd (cs:=#[.int .i8 a0_0,.int .i8 a0_1,.int .i8 a0_2,.int .i8 a0_3]) (t:=49) ?hr ?_;(case hd=>rfl);(case hg=>rfl);(case hr=>first|(go_simp;done)|(go_simp;rfl));intro gb278 hg w2 hbox hb;have n0_:=am_ (below_step (by exact HB.out) hb);have n1_:=am_ (hbox);have n2_:=am_ ((by rw [hg];exact (below_size (by exact HB.out)) : w.heap.size≤gb278));have n3_:=n2_;clear HB;have HB:=n0_;have BK278:=n1_;have GW278:=n2_;have GE278:=n3_;clear n0_ n1_ n2_ n3_;clear hb hbox hg)|((with_reducible refine gate_dst (N:=2) rfl ?_);refine box_event ?hg (N:=2) ?hd (cs:=#[.int .i8 0,.int .i8 0]) (t:=96) ?hr ?_;(case hd=>rfl);(case hg=>rfl);(case hr=>first|(go_simp;done)|(go_simp;rfl));intro gb279 hg w3 hbox hb;have n0_:=am_ (blk_below (g:=gb278) (o:=.cells #[.int .i8 a0_0,.int .i8 a0_1,.int .i8 a0_2,.int .i8 a0_3] 49 (0,0)) (by exact BK278.out) hb);have n1_:=am_ (below_step (by exact HB.out) hb);have n2_:=am_ (hbox);have n3_:=am_ ((by rw [hg];exact (below_size (by exact HB.out)) : w.heap.size≤gb279));have n4_:=n3_;have n5_:=am_ ((by rw [hg];exact nL_ (kL_ (g:=gb278) (o:=.cells #[.int .i8 a0_0,.int .i8 a0_1,.int .i8 a0_2,.int .i8 a0_3] 49 (0,0)) (by exact BK278.out)) : gb278 ≠ gb279));have n6_:=am_ ((by rw [hg];exact nG_ (kL_ (g:=gb278) (o:=.cells #[.int .i8 a0_0,.int .i8 a0_1,.int .i8 a0_2,.int .i8 a0_3] 49 (0,0)) (by exact BK278.out)) : gb279 ≠ gb278));clear BK278;clear HB;have BK278:=n0_;have HB:=n1_;have BK279:=n2_;have GW279:=n3_;have GE279:=n4_;have NB278_279:=n5_;have NB279_278:=n6_;clear n0_ n1_ n2_ n3_ n4_ n5_ n6_;clear hb hbox hg;have hnb4:=NB278_279.out;have hnc4:=NB279_278.out;have hcz5_0 : w3.cell? ⟨gb278,0,none⟩ = some (.int .i8 a0_0):=(kC_ BK278.out 0).trans rfl;have hcz5_1 : w3.cell? ⟨gb278,1,none⟩ = some (.int .i8 a0_1):=(kC_ BK278.out 1).trans rfl;have hcz5_2 : w3.cell? ⟨gb278,2,none⟩ = some (.int .i8 a0_2):=(kC_ BK278.out 2).trans rfl;have hcz5_3 : w3.cell? ⟨gb278,3,none⟩ = some (.int .i8 a0_3):=(kC_ BK278.out 3).trans rfl;have hfz5_0:=kF_ BK278.out 0;have hfz5_1:=kF_ BK278.out 1;have hfz5_2:=kF_ BK278.out 2;have hfz5_3:=kF_ BK278.out 3;have hcz6_0 : w3.cell? ⟨gb279,0,none⟩ = some (.int .i8 0):=(kC_ BK279.out 0).trans rfl;have hcz6_1 : w3.cell? ⟨gb279,1,none⟩ = some (.int .i8 0):=(kC_ BK279.out 1).trans rfl;have hfz6_0:=kF_ BK279.out 0;have hfz6_1:=kF_ BK279.out 1))
 refine bodyPost_ret (results_cell_row rfl _ _ gb279 96 #[.int .i8 a0_0,.int .i8 a0_1] (0,0) _ rfl (by (with_reducible repeat (first|apply kN_|apply kD_|apply kA_));refine blk_put (cs:=#[.int .i8 a0_0,.int .i8 0]) ?_ 1 _ rfl;(with_reducible repeat (first|apply kN_|apply kD_|apply kA_));refine blk_put (cs:=#[.int .i8 0,.int .i8 0]) ?_ 0 _ rfl;(with_reducible repeat (first|apply kN_|apply kD_|apply kA_));exact BK279.out) Try.underlying96 rfl (by kernel_rfl)) rfl ?_;exact ⟨by first|rfl|(simp [errW_none,errW_some] <;> rfl)|(simp [*,errW_none,errW_some] <;> rfl),by repeat (first|(with_reducible first|exact HB.out|apply below_alloc|apply pw_below_drewN|apply below_drew1|refine below_set ?_ GE278.out|refine below_set ?_ GE279.out)|exact HB.out)⟩
set_option maxHeartbeats 8000000 in
set_option maxRecDepth 100000 in
theorem impl_compareSlabs.calls (k : Nat) (a0_0 : Int) (a0_1 : Int) (a0_2 : Int) (a0_3 : Int) (a1_0 : Int) (a1_1 : Int) (a1_2 : Int) (a1_3 : Int) (r : Int) (w : World) (h : impl_compareSlabs.f k a0_0 a0_1 a0_2 a0_3 a1_0 a1_1 a1_2 a1_3 = some r) :
  Calls Try.prog 84 #[.agg #[.int .i8 a0_0,.int .i8 a0_1,.int .i8 a0_2,.int .i8 a0_3],.agg #[.int .i8 a1_0,.int .i8 a1_1,.int .i8 a1_2,.int .i8 a1_3]] w fun e w'=>e = .returned (.int .i64 r) ∧ Below w.heap.size w w':=by
 have hu49:=Try.underlying49;have HB:=am_ (Below.refl w.heap.size w);have H : ((impl_Slab_first.f a0_0 a0_1 a0_2 a0_3).bind fun bt282=>((impl_Slab_first.f a1_0 a1_1 a1_2 a1_3).bind fun bt284=>((impl_compareCells.f k bt282.1 bt282.2 bt284.1 bt284.2).bind fun t286=>(some t286)))) = some r:=h;clear h;replace H:=Option.bind_eq_some_iff.mp H;obtain ⟨⟨t282,t283⟩,A30,H⟩:=H;replace H : ((impl_Slab_first.f a1_0 a1_1 a1_2 a1_3).bind fun bt284=>((impl_compareCells.f k t282 t283 bt284.1 bt284.2).bind fun t286=>(some t286))) = some r:=H;have A3:=am_ A30;clear A30;replace H:=Option.bind_eq_some_iff.mp H;obtain ⟨⟨t284,t285⟩,A40,H⟩:=H;replace H : ((impl_compareCells.f k t282 t283 t284 t285).bind fun t286=>(some t286)) = some r:=H;have A4:=am_ A40;clear A40;replace H:=Option.bind_eq_some_iff.mp H;obtain ⟨t286,A50,H⟩:=H;replace H : (some t286) = some r:=H;have A5:=am_ A50;clear A50;obtain rfl:=Option.some.inj H
 go_enter Try.func84,Try.ntmps84
 try go_wp2_with (first|((with_reducible refine gate_dst (N:=2) rfl ?_);refine box_event ?hg (N:=2) ?hd (cs:=#[.int .i8 a0_0,.int .i8 a0_1,.int .i8 a0_2,.int .i8 a0_3]) (t:=49) ?hr ?_;(case hd=>rfl);(case hg=>rfl);(case hr=>first|(go_simp;done)|(go_simp;rfl));intro gb280 hg w6 hbox hb;have n0_:=am_ (below_step (by exact HB.out) hb);have n1_:=am_ (hbox);have n2_:=am_ ((by rw [hg];exact (below_size (by exact HB.out)) : w.heap.size≤gb280));have n3_:=n2_;clear HB;have HB:=n0_;have BK280:=n1_;have GW280:=n2_;have GE280:=n3_;clear n0_ n1_ n2_ n3_;clear hb hbox hg)|((with_reducible refine gate_dst (N:=3) rfl ?_);refine box_event ?hg (N:=3) ?hd (cs:=#[.int .i8 a1_0,.int .i8 a1_1,.int .i8 a1_2,.int .i8 a1_3]) (t:=49) ?hr ?_;(case hd=>rfl);(case hg=>rfl);(case hr=>first|(go_simp;done)|(go_simp;rfl));intro gb281 hg w7 hbox hb;have n0_:=am_ (blk_below (g:=gb280) (o:=.cells #[.int .i8 a0_0,.int .i8 a0_1,.int .i8 a0_2,.int .i8 a0_3] 49 (0,0)) (by exact BK280.out) hb);have n1_:=am_ (below_step (by exact HB.out) hb);have n2_:=am_ (hbox);have n3_:=am_ ((by rw [hg];exact (below_size (by exact HB.out)) : w.heap.size≤gb281));have n4_:=n3_;have n5_:=am_ ((by rw [hg];exact nL_ (kL_ (g:=gb280) (o:=.cells #[.int .i8 a0_0,.int .i8 a0_1,.int .i8 a0_2,.int .i8 a0_3] 49 (0,0)) (by exact BK280.out)) : gb280 ≠ gb281));have n6_:=am_ ((by rw [hg];exact nG_ (kL_ (g:=gb280) (o:=.cells #[.int .i8 a0_0,.int .i8 a0_1,.int .i8 a0_2,.int .i8 a0_3] 49 (0,0)) (by exact BK280.out)) : gb281 ≠ gb280));clear BK280;clear HB;have BK280:=n0_;have HB:=n1_;have BK281:=n2_;have GW281:=n3_;have GE281:=n4_;have NB280_281:=n5_;have NB281_280:=n6_;clear n0_ n1_ n2_ n3_ n4_ n5_ n6_;clear hb hbox hg))
 replace BK280:=am_ (kD_ BK280.out);replace BK281:=am_ (kD_ BK281.out);replace HB:=am_ (below_drew1 HB.out);refine start_ (n:=6) (S:=fun w'=>w'.cell? ⟨gb280,0,none⟩ = some (.int .i8 a0_0) ∧ w'.cell? ⟨gb280,1,none⟩ = some (.int .i8 a0_1) ∧ w'.cell? ⟨gb280,2,none⟩ = some (.int .i8 a0_2) ∧ w'.cell? ⟨gb280,3,none⟩ = some (.int .i8 a0_3) ∧ w'.cell? ⟨gb281,0,none⟩ = some (.int .i8 a1_0) ∧ w'.cell? ⟨gb281,1,none⟩ = some (.int .i8 a1_1) ∧ w'.cell? ⟨gb281,2,none⟩ = some (.int .i8 a1_2) ∧ w'.cell? ⟨gb281,3,none⟩ = some (.int .i8 a1_3)) (ds:=[]) (mB_ 6 0) (by kernel_rfl) rfl rfl ⟨(kC_ BK280.out 0).trans rfl,(kC_ BK280.out 1).trans rfl,(kC_ BK280.out 2).trans rfl,(kC_ BK280.out 3).trans rfl,(kC_ BK281.out 0).trans rfl,(kC_ BK281.out 1).trans rfl,(kC_ BK281.out 2).trans rfl,(kC_ BK281.out 3).trans rfl⟩ (fun hHeld=>?_);generalize w7.drew = w8 at BK280 BK281 HB hHeld ⊢;refine take_ (i:=0) (N:=some 5) (v:=?_) (a':=?_) (mB_ 6 1) rfl rfl (by kernel_rfl) (fun _ _ _ h=>h) (Or.inl ⟨by rfl,?_⟩) hHeld ?_ ?_;rotate_left;(· rintro w' ⟨s0,s1,s2,s3,s4,s5,s6,s7⟩;go_simp;with_reducible rfl);rotate_left;(· simp only [Act.put,z1_,z2_,z3_,i64_w,i32_w];rfl)
 refine take_ (i:=2) (N:=some 7) (v:=?_) (a':=?_) (mB_ 6 5) rfl rfl (by kernel_rfl) (fun _ _ _ h=>h) (Or.inl ⟨by rfl,?_⟩) hHeld ?_ ?_;rotate_left;(· rintro w' ⟨s0,s1,s2,s3,s4,s5,s6,s7⟩;go_simp;with_reducible rfl);rotate_left;(· simp only [Act.put,z1_,z2_,z3_,i64_w,i32_w];rfl)
 refine one_ (i:=1) (N:=some 6) (mB_ 6 7) rfl rfl (by kernel_rfl) (by decide) (fun K hK=>?_);refine goes_ Try.func102 (by kernel_rfl) rfl #[.agg #[.int .i8 a0_0,.int .i8 a0_1,.int .i8 a0_2,.int .i8 a0_3]] (by rfl) rfl rfl (by (try simp only [List.map_toArray,List.map_cons,List.map_nil]);first|done|rfl|(simp only [List.length_drop,List.length_take];rfl)) ?_
 with_reducible refine (impl_Slab_first.calls a0_0 a0_1 a0_2 a0_3 t282 t283 _ A3.out).mono ?_
 rintro e w9 ⟨rfl,hb⟩;refine ⟨_,rfl,?_⟩;replace BK280:=am_ (blk_below (g:=gb280) (o:=.cells #[.int .i8 a0_0,.int .i8 a0_1,.int .i8 a0_2,.int .i8 a0_3] 49 (0,0)) (by exact BK280.out) hb);replace BK281:=am_ (blk_below (g:=gb281) (o:=.cells #[.int .i8 a1_0,.int .i8 a1_1,.int .i8 a1_2,.int .i8 a1_3] 49 (0,0)) (by exact BK281.out) hb);replace HB:=am_ (below_step (by exact HB.out) hb);(try clear hb hb2 hk hi);refine hK.out _ _ ⟨(kC_ BK280.out 0).trans rfl,(kC_ BK280.out 1).trans rfl,(kC_ BK280.out 2).trans rfl,(kC_ BK280.out 3).trans rfl,(kC_ BK281.out 0).trans rfl,(kC_ BK281.out 1).trans rfl,(kC_ BK281.out 2).trans rfl,(kC_ BK281.out 3).trans rfl⟩ (fun hHeld=>?_);clear hK K;refine norm_ (a':=?_) ?_ ?_;rotate_left
 · show Act.put _ (some 6) _ = _;simp only [Act.put,z1_,z2_,z3_,i64_w,i32_w];rfl
 refine one_ (i:=3) (N:=some 8) (mB_ 6 15) rfl rfl (by kernel_rfl) (by decide) (fun K hK=>?_);refine goes_ Try.func102 (by kernel_rfl) rfl #[.agg #[.int .i8 a1_0,.int .i8 a1_1,.int .i8 a1_2,.int .i8 a1_3]] (by rfl) rfl rfl (by (try simp only [List.map_toArray,List.map_cons,List.map_nil]);first|done|rfl|(simp only [List.length_drop,List.length_take];rfl)) ?_
 with_reducible refine (impl_Slab_first.calls a1_0 a1_1 a1_2 a1_3 t284 t285 _ A4.out).mono ?_
 rintro e w10 ⟨rfl,hb⟩;refine ⟨_,rfl,?_⟩;replace BK280:=am_ (blk_below (g:=gb280) (o:=.cells #[.int .i8 a0_0,.int .i8 a0_1,.int .i8 a0_2,.int .i8 a0_3] 49 (0,0)) (by exact BK280.out) hb);replace BK281:=am_ (blk_below (g:=gb281) (o:=.cells #[.int .i8 a1_0,.int .i8 a1_1,.int .i8 a1_2,.int .i8 a1_3] 49 (0,0)) (by exact BK281.out) hb);replace HB:=am_ (below_step (by exact HB.out) hb);(try clear hb hb2 hk hi);refine hK.out _ _ ⟨(kC_ BK280.out 0).trans rfl,(kC_ BK280.out 1).trans rfl,(kC_ BK280.out 2).trans rfl,(kC_ BK280.out 3).trans rfl,(kC_ BK281.out 0).trans rfl,(kC_ BK281.out 1).trans rfl,(kC_ BK281.out 2).trans rfl,(kC_ BK281.out 3).trans rfl⟩ (fun hHeld=>?_);clear hK K;refine norm_ (a':=?_) ?_ ?_;rotate_left
 · show Act.put _ (some 8) _ = _;simp only [Act.put,z1_,z2_,z3_,i64_w,i32_w];rfl
 refine one_ (i:=4) (N:=some 9) (mB_ 6 31) rfl rfl (by kernel_rfl) (by decide) (fun K hK=>?_);refine goes_ Try.func101 (by kernel_rfl) rfl #[.agg #[.int .i8 t282,.int .i8 t283],.agg #[.int .i8 t284,.int .i8 t285]] (by rfl) rfl rfl (by (try simp only [List.map_toArray,List.map_cons,List.map_nil]);first|done|rfl|(simp only [List.length_drop,List.length_take];rfl)) ?_
 with_reducible refine (impl_compareCells.calls k t282 t283 t284 t285 t286 _ A5.out).mono ?_
 rintro e w11 ⟨rfl,hb⟩;refine ⟨_,rfl,?_⟩;replace BK280:=am_ (blk_below (g:=gb280) (o:=.cells #[.int .i8 a0_0,.int .i8 a0_1,.int .i8 a0_2,.int .i8 a0_3] 49 (0,0)) (by exact BK280.out) hb);replace BK281:=am_ (blk_below (g:=gb281) (o:=.cells #[.int .i8 a1_0,.int .i8 a1_1,.int .i8 a1_2,.int .i8 a1_3] 49 (0,0)) (by exact BK281.out) hb);replace HB:=am_ (below_step (by exact HB.out) hb);(try clear hb hb2 hk hi);refine hK.out _ _ ⟨(kC_ BK280.out 0).trans rfl,(kC_ BK280.out 1).trans rfl,(kC_ BK280.out 2).trans rfl,(kC_ BK280.out 3).trans rfl,(kC_ BK281.out 0).trans rfl,(kC_ BK281.out 1).trans rfl,(kC_ BK281.out 2).trans rfl,(kC_ BK281.out 3).trans rfl⟩ (fun hHeld=>?_);clear hK K;refine norm_ (a':=?_) ?_ ?_;rotate_left
 · show Act.put _ (some 9) _ = _;simp only [Act.put,z1_,z2_,z3_,i64_w,i32_w];rfl
 refine pure_ (i:=5) (N:=some 4) (v:=?_) (a':=?_) (mB_ 6 63) rfl rfl (by kernel_rfl) (fun _ _ _ h=>h) (Or.inl ⟨by rfl,?_⟩) ?_ ?_;rotate_left;(· intro w';go_simp;with_reducible rfl);rotate_left;(· simp only [Act.put,z1_,z2_,z3_,i64_w,i32_w];rfl)
 refine done_ (by kernel_rfl) ?_
 try go_wp2
 go_ret
 exact ⟨by first|rfl|(simp [errW_none,errW_some] <;> rfl)|(simp [*,errW_none,errW_some] <;> rfl),by repeat (first|(with_reducible first|exact HB.out|apply below_alloc|apply pw_below_drewN|apply below_drew1|refine below_set ?_ GE280.out|refine below_set ?_ GE281.out)|exact HB.out)⟩
end Srt
theorem slices_SortFunc_impl_Slab_at_impl_compareSlabs.or2 (a b : Int) : cmp_Or_int.f 9 [a, b] = some (if a = 0 then b else a) := by
 unfold cmp_Or_int.f
 simp only [cmp_Or_int.l0,List.length_cons,List.length_nil,rd]
 by_cases h : a = 0
 ·
  subst h
  by_cases h2 : b = 0
  · subst h2;first|decide|simp [wrap64]
  · simp [h2,wrap64]
 · simp [h]
theorem slices_SortFunc_impl_Slab_at_impl_compareSlabs.cmp8 (a b : Int) : cmp_Compare_int8.f a b = some (cmpZ a b) := by
 have h : ∀ x,cmp_isNaN_int8.f x = some false:=fun x=>by unfold cmp_isNaN_int8.f;simp
 unfold cmp_Compare_int8.f cmpZ
 rw [h,h];simp only [Option.bind_some,Bool.false_eq_true,if_false]
 split
 · rfl
 · split <;> rfl
def slices_SortFunc_impl_Slab_at_impl_compareSlabs.cf (x y : S49) : Int := cmpZ2 x.f1 y.f1 x.f0 y.f0
theorem slices_SortFunc_impl_Slab_at_impl_compareSlabs.cf_some (x y : S49) : impl_compareSlabs.f 9 x.f0 x.f1 x.f2 x.f3 y.f0 y.f1 y.f2 y.f3 = some (slices_SortFunc_impl_Slab_at_impl_compareSlabs.cf x y) := by
 simp only [impl_compareCells.f,impl_Slab_first.f,impl_compareSlabs.f,Option.bind_some,slices_SortFunc_impl_Slab_at_impl_compareSlabs.cmp8,slices_SortFunc_impl_Slab_at_impl_compareSlabs.or2]
 rfl
def slices_SortFunc_impl_Slab_at_impl_compareSlabs.enc (x : S49) : List Value := [.int .i8 x.f0, .int .i8 x.f1, .int .i8 x.f2, .int .i8 x.f3]
instance : Inhabited S49 := ⟨⟨0, 0, 0, 0⟩⟩
section
open Go.Shelf
def slices_SortFunc_impl_Slab_at_impl_compareSlabs_lays_ren : Go.Shelf.Ren := ⟨fun | 6 => 56 | 15 => 89 | 14 => 88 | 28 => 111 | 29 => 112 | 20 => 103 | 21 => 104 | 22 => 105 | 23 => 106 | 24 => 107 | 25 => 108 | 26 => 109 | 27 => 110 | 46 => 123 | 47 => 124 | 48 => 125 | 49 => 126 | 50 => 127 | 57 => 132 | n => n, fun | 22 => 27 | 24 => 49 | 25 => 80 | 3 => 3 | 39 => 110 | 0 => 0 | 53 => 128 | 55 => 130 | 4 => 4 | 46 => 121 | 45 => 120 | 50 => 125 | 5 => 5 | 9 => 9 | 66 => 137 | 70 => 141 | 76 => 146 | 77 => 147 | n => n, fun | n => n⟩
theorem slices_SortFunc_impl_Slab_at_impl_compareSlabs_lays : Go.Proofs.SlLaysF0.n6 Try.prog slices_SortFunc_impl_Slab_at_impl_compareSlabs_lays_ren := {
 mixed:=by kernel_rfl
 f6:=⟨Try.f56.name,by decide,Try.func56.trans (congrArg some (by kernel_rfl))⟩
 f14:=⟨Try.f88.name,by decide,Try.func88.trans (congrArg some (by kernel_rfl))⟩
 f15:=Try.func89.trans (congrArg some (by kernel_rfl))
 f20:=⟨Try.f103.name,by decide,Try.func103.trans (congrArg some (by kernel_rfl))⟩
 f21:=⟨Try.f104.name,by decide,Try.func104.trans (congrArg some (by kernel_rfl))⟩
 f22:=⟨Try.f105.name,by decide,Try.func105.trans (congrArg some (by kernel_rfl))⟩
 f23:=⟨Try.f106.name,by decide,Try.func106.trans (congrArg some (by kernel_rfl))⟩
 f24:=⟨Try.f107.name,by decide,Try.func107.trans (congrArg some (by kernel_rfl))⟩
 f25:=⟨Try.f108.name,by decide,Try.func108.trans (congrArg some (by kernel_rfl))⟩
 f26:=⟨Try.f109.name,by decide,Try.func109.trans (congrArg some (by kernel_rfl))⟩
 f27:=⟨Try.f110.name,by decide,Try.func110.trans (congrArg some (by kernel_rfl))⟩
 f28:=Try.func111.trans (congrArg some (by kernel_rfl))
 f29:=Try.func112.trans (congrArg some (by kernel_rfl))
 f46:=⟨Try.f123.name,by decide,Try.func123.trans (congrArg some (by kernel_rfl))⟩
 f47:=Try.func124.trans (congrArg some (by kernel_rfl))
 f48:=Try.func125.trans (congrArg some (by kernel_rfl))
 f49:=⟨Try.f126.name,by decide,Try.func126.trans (congrArg some (by kernel_rfl))⟩
 f50:=⟨Try.f127.name,by decide,Try.func127.trans (congrArg some (by kernel_rfl))⟩
 f57:=⟨Try.f132.name,by decide,Try.func132.trans (congrArg some (by kernel_rfl))⟩
 t0:=Try.underlying0
 a0:=Try.isAgg0
 z0:=Try.sizeOf0
 v0:=Try.zeroValue0
 t3:=Try.underlying3
 a3:=Try.isAgg3
 z3:=Try.sizeOf3
 v3:=Try.zeroValue3
 t4:=Try.underlying4
 a4:=Try.isAgg4
 z4:=Try.sizeOf4
 v4:=Try.zeroValue4
 t5:=Try.underlying5
 a5:=Try.isAgg5
 z5:=Try.sizeOf5
 v5:=Try.zeroValue5
 t9:=Try.underlying9
 a9:=Try.isAgg9
 z9:=Try.sizeOf9
 v9:=Try.zeroValue9
 t22:=Try.underlying27
 a22:=Try.isAgg27
 z22:=Try.sizeOf27
 v22:=Try.zeroValue27
 t25:=Try.underlying80
 a25:=Try.isAgg80
 z25:=Try.sizeOf80
 v25:=Try.zeroValue80
 t39:=Try.underlying110
 a39:=Try.isAgg110
 z39:=Try.sizeOf110
 v39:=Try.zeroValue110
 t45:=Try.underlying120
 a45:=Try.isAgg120
 z45:=Try.sizeOf120
 v45:=Try.zeroValue120
 t46:=Try.underlying121
 a46:=Try.isAgg121
 z46:=Try.sizeOf121
 v46:=Try.zeroValue121
 t50:=Try.underlying125
 a50:=Try.isAgg125
 z50:=Try.sizeOf125
 v50:=Try.zeroValue125
 t53:=Try.underlying128
 a53:=Try.isAgg128
 z53:=Try.sizeOf128
 v53:=Try.zeroValue128
 t55:=Try.underlying130
 a55:=Try.isAgg130
 z55:=Try.sizeOf130
 v55:=Try.zeroValue130
 t66:=Try.underlying137
 a66:=Try.isAgg137
 z66:=Try.sizeOf137
 v66:=Try.zeroValue137
 t70:=Try.underlying141
 a70:=Try.isAgg141
 z70:=Try.sizeOf141
 v70:=Try.zeroValue141
 t76:=Try.underlying146
 a76:=Try.isAgg146
 z76:=Try.sizeOf146
 v76:=Try.zeroValue146
 t77:=Try.underlying147
 a77:=Try.isAgg147
 z77:=Try.sizeOf147
 v77:=Try.zeroValue147 }
end
def slices_SortFunc_impl_Slab_at_impl_compareSlabs.f (l0 : List S49) : Option (List S49) := if l0.length < 4611686018427387904 then some (sort2 (fun x : S49 => x.f1) (fun x : S49 => x.f0) l0) else none
theorem slices_SortFunc_impl_Slab_at_impl_compareSlabs.cmpLays (blk off size : Nat) (w : World) : Go.Proofs.CmpLays Try.prog 84 #[] slices_SortFunc_impl_Slab_at_impl_compareSlabs.enc 4 slices_SortFunc_impl_Slab_at_impl_compareSlabs.cf blk off size w := fun m os dk _ x y =>
 (Srt.impl_compareSlabs.calls 9 x.f0 x.f1 x.f2 x.f3 y.f0 y.f1 y.f2 y.f3 _ _ (slices_SortFunc_impl_Slab_at_impl_compareSlabs.cf_some x y)).mono fun _ _ ⟨he,hb⟩=>⟨he,Srt.grow_of hb⟩
theorem slices_SortFunc_impl_Slab_at_impl_compareSlabs.enc_of (w : World) (base : Nat) (ok : Nat → Prop) (x : S49) (cs : List Value) (h : k49.M w base ok x cs) : cs = slices_SortFunc_impl_Slab_at_impl_compareSlabs.enc x := k49_openM h
theorem slices_SortFunc_impl_Slab_at_impl_compareSlabs.of_enc (w : World) (base : Nat) (ok : Nat → Prop) (x : S49) : k49.M w base ok x (slices_SortFunc_impl_Slab_at_impl_compareSlabs.enc x) := k49_mkM w base ok x
set_option maxHeartbeats 8000000 in
set_option maxRecDepth 100000 in
theorem slices_SortFunc_impl_Slab_at_impl_compareSlabs.calls (P0_ : Nat → Prop) (u9000_ : Value) (l0 : List S49) (r0 : List S49) (w0 w : World) (hB : Below w0.heap.size w0 w) (ho0 : Kd.R k49 49 w w0.heap.size P0_ u9000_ l0) (h : slices_SortFunc_impl_Slab_at_impl_compareSlabs.f l0 = some r0) :
  Calls Try.prog 56 #[u9000_,.func (.func 84) #[] #[]] w fun e w'=>e = .returned (.tuple #[]) ∧ Kd.R k49 49 w' w0.heap.size (fun k_=>(P0_ k_ ∨ w.heap.size≤k_)) u9000_ r0 ∧ Below w0.heap.size w0 w' ∧ Kept w w' (fun k_=>P0_ k_):=by
 unfold slices_SortFunc_impl_Slab_at_impl_compareSlabs.f at h
 by_cases hs : l0.length < 4611686018427387904
 ·
  rw [if_pos hs] at h;obtain rfl:=Option.some.inj h;clear h;have hR:=ho0;obtain ⟨hok,inner,⟨hlen,hr⟩,hreps⟩:=ho0
  rcases hr with ⟨hv,h0⟩|⟨g,cap,cur,hv,hb,hh,hn,hcap,hsz,htk⟩
  ·
   subst hv;obtain rfl : l0 = []:=List.eq_nil_of_length_eq_zero h0;have hp : sort2 (fun x : S49=>x.f1) (fun x : S49=>x.f0) [] = []:=List.eq_nil_of_length_eq_zero (sort2_perm _ _ _).length_eq;rw [hp];have hcon:=Go.Proofs.AnyF.slices_SortFunc_none slices_SortFunc_impl_Slab_at_impl_compareSlabs_lays none 0 (.func (.func 84) #[] #[]) w;refine Calls.mono (show Calls Try.prog 56 #[.slice none 0 0,.func (.func 84) #[] #[]] w _ from hcon) ?_;rintro e w' ⟨rfl,rfl⟩;exact ⟨rfl,Kd.R_nil _ _ _ _ _,hB,Kept.refl _ _⟩
  ·
   subst hv;obtain ⟨hH,hg,-,-,-⟩:=holds_row (enc:=slices_SortFunc_impl_Slab_at_impl_compareSlabs.enc) slices_SortFunc_impl_Slab_at_impl_compareSlabs.enc_of (fun _=>rfl) hR;have eg:=enters_of Try.func84 (by kernel_rfl) rfl;have hcon:=Go.Proofs.AnyQ.slices_SortFunc_eq slices_SortFunc_impl_Slab_at_impl_compareSlabs_lays 4 Try.isAgg49 Try.sizeOf49 slices_SortFunc_impl_Slab_at_impl_compareSlabs.enc (fun _=>rfl) (fun x v hv=>by simp [slices_SortFunc_impl_Slab_at_impl_compareSlabs.enc] at hv;rcases hv with rfl|rfl|rfl|rfl <;> rfl) slices_SortFunc_impl_Slab_at_impl_compareSlabs.cf (swo2 _ _) 84 #[] g 0 cap l0.toArray w eg (slices_SortFunc_impl_Slab_at_impl_compareSlabs.cmpLays _ _ _ _) hH hg (by simpa using hs);refine Calls.mono (show Calls Try.prog 56 #[.slice (some ⟨g,0,none⟩) l0.length cap,.func (.func 84) #[] #[]] w _ from hcon) ?_;rintro e w' ⟨rfl,n,os,rfl⟩;exact ⟨rfl,sorted_row (enc:=slices_SortFunc_impl_Slab_at_impl_compareSlabs.enc) slices_SortFunc_impl_Slab_at_impl_compareSlabs.of_enc (fun _=>rfl) hR hB (sort2_size _ _ _)⟩
 ·
  rw [if_neg hs] at h
  cases h
attribute [local go_sem] max2_int min2_int max_two min_two max_three min_three max_four min_four
set_option linter.unusedVariables false
set_option linter.unusedSimpArgs false
def impl_Square_with.f (a0_0 : Int) (a0_1 : Int) (l0_2 : List (S49)) (l1 : List (S49)) : Option (Int × Int × (List (S49))) := (impl_Slab_66.f l1).bind fun t294 => ((slices_SortFunc_impl_Slab_at_impl_compareSlabs.f t294).bind fun t297 => (some (a0_0, a0_1, t297)))
set_option maxHeartbeats 8000000 in
set_option maxRecDepth 100000 in
theorem impl_Square_with.calls (a0_0 : Int) (a0_1 : Int) (A0_2 : Option Addr) (c0_2 : Nat) (l0_2 : List (S49)) (A1 : Option Addr) (c1 : Nat) (l1 : List (S49)) (r1 : Int) (r2 : Int) (r3 : List (S49)) (w : World) (hr0_2 : Kd.C k49 w A0_2 l0_2.length l0_2) (hc0_2 : l0_2.length ≤ c0_2) (hr1 : Kd.C k49 w A1 l1.length l1) (hc1 : l1.length ≤ c1) (h : impl_Square_with.f a0_0 a0_1 l0_2 l1 = some (r1, r2, r3)) :
  Calls Try.prog 50 #[.agg #[.int .i8 a0_0,.int .i8 a0_1,.slice A0_2 l0_2.length c0_2],.slice A1 l1.length c1] w fun e w'=>∃ v2_ : Value,e = .returned (.agg #[.int .i8 r1,.int .i8 r2,v2_]) ∧ Kd.R k49 49 w' w.heap.size (fun _=>True) v2_ r3 ∧ Below w.heap.size w w':=by
 have hu29:=Try.underlying29;have HR0_2:=am_ hr0_2;have HC0_2:=am_ hc0_2;clear hr0_2 hc0_2;have HR1:=am_ hr1;have HC1:=am_ hc1;clear hr1 hc1;have HB:=am_ (Below.refl w.heap.size w);have H : ((impl_Slab_66.f l1).bind fun t294=>((slices_SortFunc_impl_Slab_at_impl_compareSlabs.f t294).bind fun t297=>(some (a0_0,a0_1,t297)))) = some (r1,r2,r3):=h;clear h;replace H:=Option.bind_eq_some_iff.mp H;obtain ⟨t294,A30,H⟩:=H;replace H : ((slices_SortFunc_impl_Slab_at_impl_compareSlabs.f t294).bind fun t297=>(some (a0_0,a0_1,t297))) = some (r1,r2,r3):=H;have A3:=am_ A30;clear A30;replace H:=Option.bind_eq_some_iff.mp H;obtain ⟨t297,A40,H⟩:=H;replace H : (some (a0_0,a0_1,t297)) = some (r1,r2,r3):=H;have A4:=am_ A40;clear A40;simp only [Option.some.injEq,Prod.mk.injEq] at H;obtain ⟨rfl,rfl,rfl⟩:=H
 go_enter Try.func50,Try.ntmps50
 go_wp2_with (first|((with_reducible refine gate_dst (N:=2) rfl ?_);refine box_event ?hg (N:=2) ?hd (cs:=#[.int .i8 a0_0,.int .i8 a0_1,.slice A0_2 l0_2.length c0_2]) (t:=29) ?hr ?_;(case hd=>rfl);(case hg=>rfl);(case hr=>first|(go_simp;done)|(go_simp;rfl));intro gb292 hg w5 hbox hb;have n0_:=am_ (bT_ HB.out hb);have n1_:=am_ (hbox);have n2_:=am_ ((by rw [hg];exact (bZ_ HB.out) : w.heap.size≤gb292));have n3_:=n2_;clear HB;have HB:=n0_;have BK292:=n1_;have GW292:=n2_;have GE292:=n3_;clear n0_ n1_ n2_ n3_;clear hb hbox hg)|((with_reducible refine gate_dst (N:=4) rfl ?_);refine box_event ?hg (N:=4) ?hd (cs:=#[.int .i8 0,.int .i8 0,.slice none 0 0]) (t:=29) ?hr ?_;(case hd=>rfl);(case hg=>rfl);(case hr=>first|(go_simp;done)|(go_simp;rfl));intro gb293 hg w6 hbox hb;have n0_:=am_ (kB_ BK292.out hb);have n1_:=am_ (bT_ HB.out hb);have n2_:=am_ (hbox);have n3_:=am_ ((by rw [hg];exact (bZ_ HB.out) : w.heap.size≤gb293));have n4_:=n3_;have n5_:=am_ ((by rw [hg];exact nL_ (kL_ BK292.out) : gb292 ≠ gb293));have n6_:=am_ ((by rw [hg];exact nG_ (kL_ BK292.out) : gb293 ≠ gb292));clear BK292;clear HB;have BK292:=n0_;have HB:=n1_;have BK293:=n2_;have GW293:=n3_;have GE293:=n4_;have NB292_293:=n5_;have NB293_292:=n6_;clear n0_ n1_ n2_ n3_ n4_ n5_ n6_;clear hb hbox hg)|((with_reducible refine gate_callee (f:=66) rfl ?_);refine goesL_ (some 7) rfl rfl Try.func66 (by kernel_rfl) rfl #[.slice A1 l1.length c1] rfl (by (try simp only [List.map_toArray,List.map_cons,List.map_nil]);first|done|rfl|(simp only [List.length_drop,List.length_take];rfl)) ?_;(with_reducible refine (impl_Slab_66.calls _ _ l1 t294 _ ?side1 ?side2 A3.out).mono ?_);(case side1=>repeat (first|exact (cB_ HR1.out HB.out)|(with_reducible refine Kd.C_alloc ?_ _)|(with_reducible refine Kd.C_drewN ?_ _)|(with_reducible refine Kd.C_drew ?_)));(case side2=>exact HC1.out);rintro e w7 ⟨v295,rfl,ho0,hb⟩;refine ⟨_,rfl,?_⟩;have HO296:=am_ (Kd.R_lower ho0 (bZ_ HB.out));replace BK292:=am_ (kB_ BK292.out hb);replace BK293:=am_ (kB_ BK293.out hb);replace HB:=am_ (bT_ HB.out hb);(try clear hb hb2 hk hi ho0);obtain ⟨Ao8,co8,eo8⟩:=Kd.R_slice HO296.out;subst eo8)|((with_reducible refine gate_callee (f:=56) rfl ?_);refine goesL_ (some 9) rfl rfl Try.func56 (by kernel_rfl) rfl #[.slice Ao8 t294.length co8,.func (.func 84) #[] #[]] rfl (by (try simp only [List.map_toArray,List.map_cons,List.map_nil]);first|done|rfl|(simp only [List.length_drop,List.length_take];rfl)) ?_;(with_reducible refine (slices_SortFunc_impl_Slab_at_impl_compareSlabs.calls (fun k_=>some k_ = (.slice Ao8 t294.length co8 : Value).ownBlock) (.slice Ao8 t294.length co8) t294  t297 w _ ?side1 ?side2 A4.out).mono ?_);(case side1=>repeat (first|(with_reducible first|exact HB.out|apply bA_|apply bN_|apply bD_|refine bS_ ?_ GE292.out|refine bS_ ?_ GE293.out)|exact HB.out));(case side2=>exact Kd.R_tight rfl HO296.out);rintro e w9 ⟨rfl,hy0,hb,hkp⟩;refine ⟨_,rfl,?_⟩;replace BK292:=am_ (blk_kept BK292.out hkp (fun hs_=>(fun e_=>(Kd.R_ne HO296.out BK292.out (by decide)) e_) hs_));replace BK293:=am_ (blk_kept BK293.out hkp (fun hs_=>(fun e_=>(Kd.R_ne HO296.out BK293.out (by decide)) e_) hs_));replace HO296:=am_ (Kd.R_reok rfl hy0 (fun k_ e_=>HO296.out.1 k_ e_));replace HB:=am_ (hb);(try clear hb hkp hy0);have hnb10:=NB292_293.out;have hnc10:=NB293_292.out;have hcz11_0 : w9.cell? ⟨gb292,0,none⟩ = some (.int .i8 a0_0):=(kC_ BK292.out 0).trans rfl;have hcz11_1 : w9.cell? ⟨gb292,1,none⟩ = some (.int .i8 a0_1):=(kC_ BK292.out 1).trans rfl;have hcz11_2 : w9.cell? ⟨gb292,2,none⟩ = some (.slice A0_2 l0_2.length c0_2):=(kC_ BK292.out 2).trans rfl;have hfz11_0:=kF_ BK292.out 0;have hfz11_1:=kF_ BK292.out 1;have hfz11_2:=kF_ BK292.out 2;have hcz12_0 : w9.cell? ⟨gb293,0,none⟩ = some (.int .i8 0):=(kC_ BK293.out 0).trans rfl;have hcz12_1 : w9.cell? ⟨gb293,1,none⟩ = some (.int .i8 0):=(kC_ BK293.out 1).trans rfl;have hcz12_2 : w9.cell? ⟨gb293,2,none⟩ = some (.slice none 0 0):=(kC_ BK293.out 2).trans rfl;have hfz12_0:=kF_ BK293.out 0;have hfz12_1:=kF_ BK293.out 1;have hfz12_2:=kF_ BK293.out 2))
 refine bodyPost_ret (results_cell_row rfl _ _ gb293 29 #[.int .i8 a0_0,.int .i8 a0_1,.slice Ao8 t294.length co8] (0,0) _ rfl (by (with_reducible repeat (first|apply kN_|apply kD_|apply kA_));refine blk_put (cs:=#[.int .i8 a0_0,.int .i8 a0_1,.slice none 0 0]) ?_ 2 _ rfl;(with_reducible repeat (first|apply kN_|apply kD_|apply kA_));refine blk_put (cs:=#[.int .i8 a0_0,.int .i8 0,.slice none 0 0]) ?_ 1 _ rfl;(with_reducible repeat (first|apply kN_|apply kD_|apply kA_));refine blk_put (cs:=#[.int .i8 0,.int .i8 0,.slice none 0 0]) ?_ 0 _ rfl;(with_reducible repeat (first|apply kN_|apply kD_|apply kA_));exact BK293.out) Try.underlying29 rfl (by kernel_rfl)) rfl ?_;exact ⟨_,by first|rfl|(simp [errW_none,errW_some] <;> rfl)|(simp [*,errW_none,errW_some] <;> rfl),by (with_reducible repeat (first|apply Kd.R_alloc|apply Kd.R_drewN|apply Kd.R_drew));exact rM_ (Kd.R_far (p:=⟨gb293,2,none⟩) (Kd.R_far (p:=⟨gb293,1,none⟩) (Kd.R_far (p:=⟨gb293,0,none⟩) (Kd.R_types HO296.out BK293.out (by decide)) (fun _ hk=>hk.2) (.int .i8 a0_0)) (fun _ hk=>hk.2) (.int .i8 a0_1)) (fun _ hk=>hk.2) (.slice Ao8 t294.length co8)) (fun _ hk=>trivial),by repeat (first|(with_reducible first|exact HB.out|apply bA_|apply bN_|apply bD_|refine bS_ ?_ GE292.out|refine bS_ ?_ GE293.out)|exact HB.out)⟩
attribute [local go_sem] max2_int min2_int max_two min_two max_three min_three max_four min_four
set_option linter.unusedVariables false
set_option linter.unusedSimpArgs false
def impl_Square_put.f (a0_0 : Int) (a0_1 : Int) (l0_2 : List (S49)) (a1_0 : Int) (a1_1 : Int) (a1_2 : Int) (a1_3 : Int) : Option (Int × Int × (List (S49))) := (impl_Slab_66.f l0_2).bind fun t301 => ((some (([(⟨a1_0, a1_1, a1_2, a1_3⟩ : S49)] : List (S49)) : List (S49))).bind fun y304 => (if t301.length + y304.length < 35184372088832 then ((impl_Square_with.f a0_0 a0_1 l0_2 (t301 ++ y304)).bind fun bt310 => (some (bt310.1, bt310.2.1, bt310.2.2))) else (none)))
def impl_Square_put.T1 : Bool × List (List Nat × List Nat) := (true, [([], []), ([], []), ([1], [1]), ([2], [2]), ([], []), ([4], [4]), ([3, 5, 3], [3, 5]), ([0, 6, 6], [0, 6]), ([7, 7, 0, 1, 2, 3, 4, 5, 6, 7], [7])])
def impl_Square_put.B1 : List Nat := [0, 0, 2, 6, 0, 16, 62, 127, 255]
theorem impl_Square_put.tab1 : rtab .any (opsOf Try.f52 1) = impl_Square_put.T1 := by kernel_rfl
theorem impl_Square_put.bits1 : waitsOk impl_Square_put.T1.2 impl_Square_put.B1 = true := by kernel_rfl
set_option maxHeartbeats 8000000 in
set_option maxRecDepth 100000 in
theorem impl_Square_put.calls (a0_0 : Int) (a0_1 : Int) (A0_2 : Option Addr) (c0_2 : Nat) (l0_2 : List (S49)) (a1_0 : Int) (a1_1 : Int) (a1_2 : Int) (a1_3 : Int) (r1 : Int) (r2 : Int) (r3 : List (S49)) (w : World) (hr0_2 : Kd.C k49 w A0_2 l0_2.length l0_2) (hc0_2 : l0_2.length ≤ c0_2) (h : impl_Square_put.f a0_0 a0_1 l0_2 a1_0 a1_1 a1_2 a1_3 = some (r1, r2, r3)) :
  Calls Try.prog 52 #[.agg #[.int .i8 a0_0,.int .i8 a0_1,.slice A0_2 l0_2.length c0_2],.agg #[.int .i8 a1_0,.int .i8 a1_1,.int .i8 a1_2,.int .i8 a1_3]] w fun e w'=>∃ v2_ : Value,e = .returned (.agg #[.int .i8 r1,.int .i8 r2,v2_]) ∧ Kd.R k49 49 w' w.heap.size (fun _=>True) v2_ r3 ∧ Below w.heap.size w w':=by
 have hu29:=Try.underlying29;have hu49:=Try.underlying49;have HR0_2:=am_ hr0_2;have HC0_2:=am_ hc0_2;clear hr0_2 hc0_2;have HB:=am_ (Below.refl w.heap.size w);have H : ((impl_Slab_66.f l0_2).bind fun t301=>((some (([(⟨a1_0,a1_1,a1_2,a1_3⟩ : S49)] : List (S49)) : List (S49))).bind fun y304=>(if t301.length + y304.length < 35184372088832 then ((impl_Square_with.f a0_0 a0_1 l0_2 (t301 ++ y304)).bind fun bt310=>(some (bt310.1,bt310.2.1,bt310.2.2))) else (none)))) = some (r1,r2,r3):=h;clear h;replace H:=Option.bind_eq_some_iff.mp H;obtain ⟨t301,A30,H⟩:=H;replace H : ((some (([(⟨a1_0,a1_1,a1_2,a1_3⟩ : S49)] : List (S49)) : List (S49))).bind fun y304=>(if t301.length + y304.length < 35184372088832 then ((impl_Square_with.f a0_0 a0_1 l0_2 (t301 ++ y304)).bind fun bt310=>(some (bt310.1,bt310.2.1,bt310.2.2))) else (none))) = some (r1,r2,r3):=H;have A3:=am_ A30;clear A30;obtain ⟨y304,hy304⟩ : ∃ y_ : List (S49),y_ = (([(⟨a1_0,a1_1,a1_2,a1_3⟩ : S49)] : List (S49))):=⟨_,rfl⟩
 replace H : (if t301.length + y304.length < 35184372088832 then ((impl_Square_with.f a0_0 a0_1 l0_2 (t301 ++ y304)).bind fun bt310=>(some (bt310.1,bt310.2.1,bt310.2.2))) else (none)) = some (r1,r2,r3):=by first|(rw [hy304];with_reducible exact H)|(have H2_:=(Option.bind_some _ _).symm.trans H;rw [hy304];with_reducible exact H2_)|(have H2_:=(Option.bind_some _ _).symm.trans H;with_reducible exact H2_)|with_reducible exact H|(rw [hy304];exact H)|exact H
 have Ny304:=am_ hy304;clear hy304
 by_cases c4 : t301.length + y304.length < 35184372088832
 ·
  rw [if_pos c4] at H;have LMc4:=am_ c4;clear c4;obtain ⟨y307,hy307⟩ : ∃ y_ : List (S49),y_ = (t301 ++ y304):=⟨_,rfl⟩
  replace H : ((impl_Square_with.f a0_0 a0_1 l0_2 y307).bind fun bt310=>(some (bt310.1,bt310.2.1,bt310.2.2))) = some (r1,r2,r3):=by first|(rw [hy307];with_reducible exact H)|(have H2_:=(Option.bind_some _ _).symm.trans H;rw [hy307];with_reducible exact H2_)|(have H2_:=(Option.bind_some _ _).symm.trans H;with_reducible exact H2_)|with_reducible exact H|(rw [hy307];exact H)|exact H
  have Ny307:=am_ hy307;clear hy307;replace H:=Option.bind_eq_some_iff.mp H;obtain ⟨⟨t310,t311,t312⟩,A50,H⟩:=H;replace H : (some (t310,t311,t312)) = some (r1,r2,r3):=H;have A5:=am_ A50;clear A50;simp only [Option.some.injEq,Prod.mk.injEq] at H;obtain ⟨rfl,rfl,rfl⟩:=H
  go_enter Try.func52,Try.ntmps52
  try go_wp2_with (first|((with_reducible refine gate_dst (N:=2) rfl ?_);refine box_event ?hg (N:=2) ?hd (cs:=#[.int .i8 a0_0,.int .i8 a0_1,.slice A0_2 l0_2.length c0_2]) (t:=29) ?hr ?_;(case hd=>rfl);(case hg=>rfl);(case hr=>first|(go_simp;done)|(go_simp;rfl));intro gb298 hg w6 hbox hb;have n0_:=am_ (bT_ HB.out hb);have n1_:=am_ (hbox);have n2_:=am_ ((by rw [hg];exact (bZ_ HB.out) : w.heap.size≤gb298));have n3_:=n2_;clear HB;have HB:=n0_;have BK298:=n1_;have GW298:=n2_;have GE298:=n3_;clear n0_ n1_ n2_ n3_;clear hb hbox hg)|((with_reducible refine gate_dst (N:=3) rfl ?_);refine box_event ?hg (N:=3) ?hd (cs:=#[.int .i8 a1_0,.int .i8 a1_1,.int .i8 a1_2,.int .i8 a1_3]) (t:=49) ?hr ?_;(case hd=>rfl);(case hg=>rfl);(case hr=>first|(go_simp;done)|(go_simp;rfl));intro gb299 hg w7 hbox hb;have n0_:=am_ (kB_ BK298.out hb);have n1_:=am_ (bT_ HB.out hb);have n2_:=am_ (hbox);have n3_:=am_ ((by rw [hg];exact (bZ_ HB.out) : w.heap.size≤gb299));have n4_:=n3_;have n5_:=am_ ((by rw [hg];exact nL_ (kL_ BK298.out) : gb298 ≠ gb299));have n6_:=am_ ((by rw [hg];exact nG_ (kL_ BK298.out) : gb299 ≠ gb298));clear BK298;clear HB;have BK298:=n0_;have HB:=n1_;have BK299:=n2_;have GW299:=n3_;have GE299:=n4_;have NB298_299:=n5_;have NB299_298:=n6_;clear n0_ n1_ n2_ n3_ n4_ n5_ n6_;clear hb hbox hg)|((with_reducible refine gate_dst (N:=4) rfl ?_);refine box_event ?hg (N:=4) ?hd (cs:=#[.int .i8 0,.int .i8 0,.slice none 0 0]) (t:=29) ?hr ?_;(case hd=>rfl);(case hg=>rfl);(case hr=>first|(go_simp;done)|(go_simp;rfl));intro gb300 hg w8 hbox hb;have n0_:=am_ (kB_ BK298.out hb);have n1_:=am_ (kB_ BK299.out hb);have n2_:=am_ (bT_ HB.out hb);have n3_:=am_ (hbox);have n4_:=am_ ((by rw [hg];exact (bZ_ HB.out) : w.heap.size≤gb300));have n5_:=n4_;have n6_:=am_ ((by rw [hg];exact nL_ (kL_ BK298.out) : gb298 ≠ gb300));have n7_:=am_ ((by rw [hg];exact nG_ (kL_ BK298.out) : gb300 ≠ gb298));have n8_:=am_ ((by rw [hg];exact nL_ (kL_ BK299.out) : gb299 ≠ gb300));have n9_:=am_ ((by rw [hg];exact nG_ (kL_ BK299.out) : gb300 ≠ gb299));clear BK298;clear BK299;clear HB;have BK298:=n0_;have BK299:=n1_;have HB:=n2_;have BK300:=n3_;have GW300:=n4_;have GE300:=n5_;have NB298_300:=n6_;have NB300_298:=n7_;have NB299_300:=n8_;have NB300_299:=n9_;clear n0_ n1_ n2_ n3_ n4_ n5_ n6_ n7_ n8_ n9_;clear hb hbox hg))
  replace BK298:=am_ (kD_ BK298.out);replace BK299:=am_ (kD_ BK299.out);replace BK300:=am_ (kD_ BK300.out);replace HB:=am_ (bD_ HB.out);refine start_ (n:=9) (S:=fun w'=>w'.cell? ⟨gb298,0,none⟩ = some (.int .i8 a0_0) ∧ w'.cell? ⟨gb298,1,none⟩ = some (.int .i8 a0_1) ∧ w'.cell? ⟨gb298,2,none⟩ = some (.slice A0_2 l0_2.length c0_2) ∧ w'.cell? ⟨gb299,0,none⟩ = some (.int .i8 a1_0) ∧ w'.cell? ⟨gb299,1,none⟩ = some (.int .i8 a1_1) ∧ w'.cell? ⟨gb299,2,none⟩ = some (.int .i8 a1_2) ∧ w'.cell? ⟨gb299,3,none⟩ = some (.int .i8 a1_3)) (ds:=[]) (mB_ 9 0) (by kernel_rfl) rfl rfl ⟨(kC_ BK298.out 0).trans rfl,(kC_ BK298.out 1).trans rfl,(kC_ BK298.out 2).trans rfl,(kC_ BK299.out 0).trans rfl,(kC_ BK299.out 1).trans rfl,(kC_ BK299.out 2).trans rfl,(kC_ BK299.out 3).trans rfl⟩ (fun hHeld=>?_);refine with_tabW impl_Square_put.tab1 impl_Square_put.bits1 (fun HT_ HW_=>?_);generalize w8.drew = w9 at BK298 BK299 BK300 HB hHeld ⊢;refine pure_ (i:=1) (N:=some 6) (v:=?_) (a':=?_) (mB_ 9 2) rfl rfl (any_of HT_.out (by kernel_rfl)) (fun _ _ _ h=>h) (Or.inl ⟨by rfl,?_⟩) ?_ ?_;rotate_left;(· intro w';go_simp;with_reducible rfl);rotate_left;(· simp only [Act.put,z1_,z2_,z3_,i64_w,i32_w];rfl)
  refine take_ (i:=0) (N:=some 5) (v:=?_) (a':=?_) (mB_ 9 3) rfl rfl (take_ofW HT_.out HW_.out (by kernel_rfl)) (fun _ _ _ h=>h) (Or.inl ⟨by rfl,?_⟩) hHeld ?_ ?_;rotate_left;(· rintro w' ⟨s0,s1,s2,s3,s4,s5,s6⟩;go_simp;with_reducible rfl);rotate_left;(· simp only [Act.put,z1_,z2_,z3_,i64_w,i32_w];rfl)
  refine take_ (i:=2) (N:=some 7) (v:=?_) (a':=?_) (mB_ 9 7) rfl rfl (take_ofW HT_.out HW_.out (by kernel_rfl)) (fun _ _ _ h=>h) (Or.inl ⟨by rfl,?_⟩) hHeld ?_ ?_;rotate_left;(· rintro w' ⟨s0,s1,s2,s3,s4,s5,s6⟩;go_simp;with_reducible rfl);rotate_left;(· simp only [Act.put,z1_,z2_,z3_,i64_w,i32_w];rfl)
  refine take_ (i:=4) (N:=some 9) (v:=?_) (a':=?_) (mB_ 9 23) rfl rfl (take_ofW HT_.out HW_.out (by kernel_rfl)) (fun _ _ _ h=>h) (Or.inl ⟨by rfl,?_⟩) hHeld ?_ ?_;rotate_left;(· rintro w' ⟨s0,s1,s2,s3,s4,s5,s6⟩;go_simp;with_reducible rfl);rotate_left;(· simp only [Act.put,z1_,z2_,z3_,i64_w,i32_w];rfl)
  refine join_ (σ:=Value × Value) 3 (mB_ 9 63) (fun s_=>[(8,s_.1),(10,s_.2)]) (fun s_ w'=>(w'.cell? ⟨gb298,0,none⟩ = some (.int .i8 a0_0) ∧ w'.cell? ⟨gb298,1,none⟩ = some (.int .i8 a0_1) ∧ w'.cell? ⟨gb298,2,none⟩ = some (.slice A0_2 l0_2.length c0_2) ∧ w'.cell? ⟨gb299,0,none⟩ = some (.int .i8 a1_0) ∧ w'.cell? ⟨gb299,1,none⟩ = some (.int .i8 a1_1) ∧ w'.cell? ⟨gb299,2,none⟩ = some (.int .i8 a1_2) ∧ w'.cell? ⟨gb299,3,none⟩ = some (.int .i8 a1_3)) ∧ (Kd.R k49 49 w' w.heap.size (fun k_=>some k_ ≠ (s_.2 : Value).ownBlock ∧ k_ ≠ gb299) s_.1 t301) ∧ (Kd.R k49 49 w' w.heap.size (fun k_=>some k_ ≠ (s_.1 : Value).ownBlock ∧ k_ ≠ gb299) s_.2 y304) ∧ (w'.heap[gb298]? = some (.cells #[.int .i8 a0_0,.int .i8 a0_1,.slice A0_2 l0_2.length c0_2] 29 (0,0))) ∧ (w'.heap[gb299]? = some (.cells #[.int .i8 a1_0,.int .i8 a1_1,.int .i8 a1_2,.int .i8 a1_3] 49 (0,0))) ∧ (w'.heap[gb300]? = some (.cells #[.int .i8 0,.int .i8 0,.slice none 0 0] 29 (0,0))) ∧ (Below w.heap.size w w')) ?_ ?_;rotate_left
  ·
   intro hCont;refine two_ (i:=3) (j:=5) (Ni:=some 8) (Nj:=some 10) (mB_ 9 31) (mB_ 9 55) rfl rfl rfl rfl (two_of HT_.out (by kernel_rfl)) (by decide) (by decide) (fun K hK=>?_) (fun K hK=>?_)
   ·
    skip
    refine goes_ Try.func66 (by kernel_rfl) rfl #[.slice A0_2 l0_2.length c0_2] (by rfl) rfl rfl (by (try simp only [List.map_toArray,List.map_cons,List.map_nil]);first|done|rfl|(simp only [List.length_drop,List.length_take];rfl)) ?_
    with_reducible refine (impl_Slab_66.calls _ _ l0_2 t301 _ ?side1 ?side2 A3.out).mono ?_
    (case side1=>repeat (first|exact (cB_ HR0_2.out HB.out)|(with_reducible refine Kd.C_alloc ?_ _)|(with_reducible refine Kd.C_drewN ?_ _)|(with_reducible refine Kd.C_drew ?_)))
    (case side2=>exact HC0_2.out)
    rintro e w10 ⟨v302,rfl,ho0,hb⟩;refine ⟨_,rfl,?_⟩;have HO303:=am_ (Kd.R_lower (Kd.R_newB ho0 (g:=gb299) (o:=.cells #[.int .i8 a1_0,.int .i8 a1_1,.int .i8 a1_2,.int .i8 a1_3] 49 (0,0)) BK299.out) (bZ_ HB.out));replace BK298:=am_ (kB_ BK298.out hb);replace BK299:=am_ (kB_ BK299.out hb);replace BK300:=am_ (kB_ BK300.out hb);replace HB:=am_ (bT_ HB.out hb);(try clear hb hb2 hk hi ho0);refine hK.out _ _ ⟨(kC_ BK298.out 0).trans rfl,(kC_ BK298.out 1).trans rfl,(kC_ BK298.out 2).trans rfl,(kC_ BK299.out 0).trans rfl,(kC_ BK299.out 1).trans rfl,(kC_ BK299.out 2).trans rfl,(kC_ BK299.out 3).trans rfl⟩ (fun hHeld=>?_);clear hK K;refine norm_ (a':=?_) ?_ ?_;rotate_left
    · show Act.put _ (some 8) _ = _;simp only [Act.put,z1_,z2_,z3_,i64_w,i32_w];rfl
    refine one_ (i:=5) (N:=some 10) (mB_ 9 63) rfl rfl (one_of HT_.out (by kernel_rfl)) (by decide) (fun K hK=>?_);refine Kd.R_lit_step k49 _ 49 ?hg (N:=10) ?hd (xs:=([(⟨a1_0,a1_1,a1_2,a1_3⟩ : S49)] : List (S49))) (inner:=[.int .i8 a1_0,.int .i8 a1_1,.int .i8 a1_2,.int .i8 a1_3]) (ok:=fun _=>True) (okp:=fun _=>True) ?hr ?hp (fun _ hk=>hk) trivial (Below.refl _ _) (Nat.le_refl _) (by simp) ?_;(case hd=>rfl);(case hg=>rfl);(case hr=>first|(go_simp;done)|(go_simp;rfl));(case hp=>exact (Reps.c4 (show Kd.M k49 _ _ _ (⟨a1_0,a1_1,a1_2,a1_3⟩ : S49) [.int .i8 a1_0,.int .i8 a1_1,.int .i8 a1_2,.int .i8 a1_3] from (k49_mkM _ _ _ (⟨a1_0,a1_1,a1_2,a1_3⟩ : S49) )) (Reps.none _ _)));intro v305 w11 ho12 hb hg_ hnew_;clear hg_ hnew_
    (first|rw [← Ny304.out] at ho12|(simp only [Int.reduceToNat] at ho12;rw [← Ny304.out] at ho12))
    have n0_:=am_ (Kd.R_elder' HO303.out (Kd.R_base ho12) hb);have n1_:=am_ (Kd.R_lower (Kd.R_newB (Kd.R_new' ho12 (Kd.R_lt HO303.out)) (g:=gb299) (o:=.cells #[.int .i8 a1_0,.int .i8 a1_1,.int .i8 a1_2,.int .i8 a1_3] 49 (0,0)) BK299.out) (bZ_ HB.out));have n2_:=am_ (kB_ BK298.out hb);have n3_:=am_ (kB_ BK299.out hb);have n4_:=am_ (kB_ BK300.out hb);have n5_:=am_ (bT_ HB.out hb);clear HO303;clear BK298;clear BK299;clear BK300;clear HB;have HO303:=n0_;have HO306:=n1_;have BK298:=n2_;have BK299:=n3_;have BK300:=n4_;have HB:=n5_;clear n0_ n1_ n2_ n3_ n4_ n5_;clear hb ho12;refine hK.out _ _ ⟨(kC_ BK298.out 0).trans rfl,(kC_ BK298.out 1).trans rfl,(kC_ BK298.out 2).trans rfl,(kC_ BK299.out 0).trans rfl,(kC_ BK299.out 1).trans rfl,(kC_ BK299.out 2).trans rfl,(kC_ BK299.out 3).trans rfl⟩ (fun hHeld=>?_);clear hK K;refine norm_ (a':=?_) ?_ ?_;rotate_left
    · show Act.put _ (some 10) _ = _;simp only [Act.put,z1_,z2_,z3_,i64_w,i32_w];rfl
    exact norm_ (by simp only [putAll,Act.put,z1_,z2_,z3_]) (hCont (v302,v305) _ ⟨hHeld,(rM_ HO303.out (fun _ hk=>⟨hk.2,hk.1.2⟩)),(rM_ HO306.out (fun _ hk=>⟨hk.1.2,hk.2⟩)),BK298.out,BK299.out,BK300.out,HB.out⟩)
   ·
    skip
    refine Kd.R_lit_step k49 _ 49 ?hg (N:=10) ?hd (xs:=([(⟨a1_0,a1_1,a1_2,a1_3⟩ : S49)] : List (S49))) (inner:=[.int .i8 a1_0,.int .i8 a1_1,.int .i8 a1_2,.int .i8 a1_3]) (ok:=fun _=>True) (okp:=fun _=>True) ?hr ?hp (fun _ hk=>hk) trivial (Below.refl _ _) (Nat.le_refl _) (by simp) ?_;(case hd=>rfl);(case hg=>rfl);(case hr=>first|(go_simp;done)|(go_simp;rfl));(case hp=>exact (Reps.c4 (show Kd.M k49 _ _ _ (⟨a1_0,a1_1,a1_2,a1_3⟩ : S49) [.int .i8 a1_0,.int .i8 a1_1,.int .i8 a1_2,.int .i8 a1_3] from (k49_mkM _ _ _ (⟨a1_0,a1_1,a1_2,a1_3⟩ : S49) )) (Reps.none _ _)));intro v305 w10 ho11 hb hg_ hnew_;clear hg_ hnew_
    (first|rw [← Ny304.out] at ho11|(simp only [Int.reduceToNat] at ho11;rw [← Ny304.out] at ho11))
    have HO306:=am_ (Kd.R_lower (Kd.R_newB ho11 (g:=gb299) (o:=.cells #[.int .i8 a1_0,.int .i8 a1_1,.int .i8 a1_2,.int .i8 a1_3] 49 (0,0)) BK299.out) (bZ_ HB.out));replace BK298:=am_ (kB_ BK298.out hb);replace BK299:=am_ (kB_ BK299.out hb);replace BK300:=am_ (kB_ BK300.out hb);replace HB:=am_ (bT_ HB.out hb);clear hb ho11;refine hK.out _ _ ⟨(kC_ BK298.out 0).trans rfl,(kC_ BK298.out 1).trans rfl,(kC_ BK298.out 2).trans rfl,(kC_ BK299.out 0).trans rfl,(kC_ BK299.out 1).trans rfl,(kC_ BK299.out 2).trans rfl,(kC_ BK299.out 3).trans rfl⟩ (fun hHeld=>?_);clear hK K;refine norm_ (a':=?_) ?_ ?_;rotate_left
    · show Act.put _ (some 10) _ = _;simp only [Act.put,z1_,z2_,z3_,i64_w,i32_w];rfl
    refine one_ (i:=3) (N:=some 8) (mB_ 9 63) rfl rfl (one_of HT_.out (by kernel_rfl)) (by decide) (fun K hK=>?_);refine goes_ Try.func66 (by kernel_rfl) rfl #[.slice A0_2 l0_2.length c0_2] (by rfl) rfl rfl (by (try simp only [List.map_toArray,List.map_cons,List.map_nil]);first|done|rfl|(simp only [List.length_drop,List.length_take];rfl)) ?_
    with_reducible refine (impl_Slab_66.calls _ _ l0_2 t301 _ ?side1 ?side2 A3.out).mono ?_
    (case side1=>repeat (first|exact (cB_ HR0_2.out HB.out)|(with_reducible refine Kd.C_alloc ?_ _)|(with_reducible refine Kd.C_drewN ?_ _)|(with_reducible refine Kd.C_drew ?_)))
    (case side2=>exact HC0_2.out)
    rintro e w12 ⟨v302,rfl,ho0,hb⟩;refine ⟨_,rfl,?_⟩;have n0_:=am_ (Kd.R_elder' HO306.out (Kd.R_base ho0) hb);have n1_:=am_ (Kd.R_lower (Kd.R_newB (Kd.R_new' ho0 (Kd.R_lt HO306.out)) (g:=gb299) (o:=.cells #[.int .i8 a1_0,.int .i8 a1_1,.int .i8 a1_2,.int .i8 a1_3] 49 (0,0)) BK299.out) (bZ_ HB.out));have n2_:=am_ (kB_ BK298.out hb);have n3_:=am_ (kB_ BK299.out hb);have n4_:=am_ (kB_ BK300.out hb);have n5_:=am_ (bT_ HB.out hb);clear HO306;clear BK298;clear BK299;clear BK300;clear HB;have HO306:=n0_;have HO303:=n1_;have BK298:=n2_;have BK299:=n3_;have BK300:=n4_;have HB:=n5_;clear n0_ n1_ n2_ n3_ n4_ n5_;(try clear hb hb2 hk hi ho0);refine hK.out _ _ ⟨(kC_ BK298.out 0).trans rfl,(kC_ BK298.out 1).trans rfl,(kC_ BK298.out 2).trans rfl,(kC_ BK299.out 0).trans rfl,(kC_ BK299.out 1).trans rfl,(kC_ BK299.out 2).trans rfl,(kC_ BK299.out 3).trans rfl⟩ (fun hHeld=>?_);clear hK K;refine norm_ (a':=?_) ?_ ?_;rotate_left
    · show Act.put _ (some 8) _ = _;simp only [Act.put,z1_,z2_,z3_,i64_w,i32_w];rfl
    exact norm_ (by simp only [putAll,Act.put,z1_,z2_,z3_]) (hCont (v302,v305) _ ⟨hHeld,(rM_ HO303.out (fun _ hk=>⟨hk.1.2,hk.2⟩)),(rM_ HO306.out (fun _ hk=>⟨hk.2,hk.1.2⟩)),BK298.out,BK299.out,BK300.out,HB.out⟩)
  rintro ⟨v302,v305⟩ w13 ⟨hS_,h0_,h1_,h2_,h3_,h4_,h5_⟩;have n0_ : Aside0 (Kd.R k49 49 w13 w.heap.size (fun k_=>some k_ ≠ (v305 : Value).ownBlock ∧ k_ ≠ gb299) v302 t301):=⟨h0_⟩
  have n1_ : Aside0 (Kd.R k49 49 w13 w.heap.size (fun k_=>some k_ ≠ (v302 : Value).ownBlock ∧ k_ ≠ gb299) v305 y304):=⟨h1_⟩
  have n2_ : Aside0 (w13.heap[gb298]? = some (.cells #[.int .i8 a0_0,.int .i8 a0_1,.slice A0_2 l0_2.length c0_2] 29 (0,0))):=⟨h2_⟩
  have n3_ : Aside0 (w13.heap[gb299]? = some (.cells #[.int .i8 a1_0,.int .i8 a1_1,.int .i8 a1_2,.int .i8 a1_3] 49 (0,0))):=⟨h3_⟩
  have n4_ : Aside0 (w13.heap[gb300]? = some (.cells #[.int .i8 0,.int .i8 0,.slice none 0 0] 29 (0,0))):=⟨h4_⟩
  have n5_ : Aside0 (Below w.heap.size w w13):=⟨h5_⟩
  clear BK298;clear BK299;clear BK300;clear HB;clear h0_ h1_ h2_ h3_ h4_ h5_;have HO303:=n0_;have HO306:=n1_;have BK298:=n2_;have BK299:=n3_;have BK300:=n4_;have HB:=n5_;clear n0_ n1_ n2_ n3_ n4_ n5_;have hHeld : w13.cell? ⟨gb298,0,none⟩ = some (.int .i8 a0_0) ∧ w13.cell? ⟨gb298,1,none⟩ = some (.int .i8 a0_1) ∧ w13.cell? ⟨gb298,2,none⟩ = some (.slice A0_2 l0_2.length c0_2) ∧ w13.cell? ⟨gb299,0,none⟩ = some (.int .i8 a1_0) ∧ w13.cell? ⟨gb299,1,none⟩ = some (.int .i8 a1_1) ∧ w13.cell? ⟨gb299,2,none⟩ = some (.int .i8 a1_2) ∧ w13.cell? ⟨gb299,3,none⟩ = some (.int .i8 a1_3):=hS_;obtain ⟨Ao15,co15,eo15⟩:=Kd.R_slice HO306.out
  (first|subst eo15|(injection eo15 with f1_ f2_ f3_;have f4_:=f1_.symm;have f5_:=f3_.symm;clear f1_ f2_ f3_;subst f4_;subst f5_))
  refine norm_ (a':=?_) ?_ ?_;rotate_left
  · simp only [putAll,Act.put,z1_,z2_,z3_];rfl
  refine one_ (i:=6) (N:=some 11) (mB_ 9 127) rfl rfl (one_of HT_.out (by kernel_rfl)) (by decide) (fun K hK=>?_);refine Kd.R_append_rows_step k49 (w0:=w) w.heap.size (by rfl) (.tmp 8) (.tmp 10) 27 49 (.agg #[(.int .i8 0),(.int .i8 0),(.int .i8 0),(.int .i8 0)]) 4 rfl Try.underlying27 info49 rfl (by decide) (by omega) v302 t301 y304 _ _ _ (fun k_=>some k_ ≠ (.slice Ao15 y304.length co15 : Value).ownBlock ∧ k_ ≠ gb299) (fun _=>False) rfl rfl ?aO ?aR (fun _ _ h=>h) (fun _ h=>h.elim) ?aF ?aB ?aS ?aL ?_
  (case aR=>repeat (first|exact (Kd.R_reads' HO306.out).2.2|(with_reducible refine Kd.C_alloc ?_ _)|(with_reducible refine Kd.C_drewN ?_ _)|(with_reducible refine Kd.C_drew ?_)))
  (case aB=>exact HB.out)
  (case aF=>exact (fun k_ hk=>⟨Kd.fresh' (Kd.R_lt HO306.out) k_ hk,Kd.freshB (g:=gb299) (o:=.cells #[.int .i8 a1_0,.int .i8 a1_1,.int .i8 a1_2,.int .i8 a1_3] 49 (0,0)) BK299.out k_ hk⟩))
  (case aO=>exact HO303.out)
  (case aS=>exact (bZ_ HB.out))
  (case aL=>have:=LMc4.out;omega)
  intro v308 w14 ho hb hg hat;rw [← Ny307.out] at ho;have n0_:=am_ (blk_grown (g:=gb298) (o:=.cells #[.int .i8 a0_0,.int .i8 a0_1,.slice A0_2 l0_2.length c0_2] 29 (0,0)) BK298.out hg (Kd.R_ne HO303.out BK298.out (by decide)));have n1_:=am_ (blk_grown (g:=gb299) (o:=.cells #[.int .i8 a1_0,.int .i8 a1_1,.int .i8 a1_2,.int .i8 a1_3] 49 (0,0)) BK299.out hg (Kd.R_away HO303.out (fun _ hk=>hk.2)));have n2_:=am_ (blk_grown (g:=gb300) (o:=.cells #[.int .i8 0,.int .i8 0,.slice none 0 0] 29 (0,0)) BK300.out hg (Kd.R_ne HO303.out BK300.out (by decide)));have n3_:=am_ (Kd.R_after (ok:=(fun k_=>k_ ≠ gb299)) (rM_ HO306.out (fun _ hk=>⟨hk.2,hk.1⟩)) hg hat);have n4_:=am_ (hb);have n5_:=am_ (ho);clear BK298;clear BK299;clear BK300;clear HO306;clear HB;clear HO303;have BK298:=n0_;have BK299:=n1_;have BK300:=n2_;have HO306:=n3_;have HB:=n4_;have HO309:=n5_;clear n0_ n1_ n2_ n3_ n4_ n5_;clear ho hb hg hat;obtain ⟨Ao16,co16,eo16⟩:=Kd.R_slice HO309.out
  (first|subst eo16|(injection eo16 with f1_ f2_ f3_;have f4_:=f1_.symm;have f5_:=f3_.symm;clear f1_ f2_ f3_;subst f4_;subst f5_))
  refine hK.out _ _ ⟨(kC_ BK298.out 0).trans rfl,(kC_ BK298.out 1).trans rfl,(kC_ BK298.out 2).trans rfl,(kC_ BK299.out 0).trans rfl,(kC_ BK299.out 1).trans rfl,(kC_ BK299.out 2).trans rfl,(kC_ BK299.out 3).trans rfl⟩ (fun hHeld=>?_);clear hK K;refine norm_ (a':=?_) ?_ ?_;rotate_left
  · show Act.put _ (some 11) _ = _;simp only [Act.put,z1_,z2_,z3_,i64_w,i32_w];rfl
  refine one_ (i:=7) (N:=some 12) (mB_ 9 255) rfl rfl (one_of HT_.out (by kernel_rfl)) (by decide) (fun K hK=>?_);refine goes_ Try.func50 (by kernel_rfl) rfl #[.agg #[.int .i8 a0_0,.int .i8 a0_1,.slice A0_2 l0_2.length c0_2],.slice Ao16 y307.length co16] (by rfl) rfl rfl (by (try simp only [List.map_toArray,List.map_cons,List.map_nil]);first|done|rfl|(simp only [List.length_drop,List.length_take];rfl)) ?_
  with_reducible refine (impl_Square_with.calls a0_0 a0_1 _ _ l0_2 _ _ y307 t310 t311 t312 _ ?side1 ?side2 ?side3 ?side4 A5.out).mono ?_
  (case side1=>repeat (first|exact (cB_ HR0_2.out HB.out)|(with_reducible refine Kd.C_alloc ?_ _)|(with_reducible refine Kd.C_drewN ?_ _)|(with_reducible refine Kd.C_drew ?_)))
  (case side2=>exact HC0_2.out)
  (case side3=>repeat (first|exact (Kd.R_reads' HO309.out).2.2|(with_reducible refine Kd.C_alloc ?_ _)|(with_reducible refine Kd.C_drewN ?_ _)|(with_reducible refine Kd.C_drew ?_)))
  (case side4=>exact (Kd.R_reads' HO309.out).2.1)
  rintro e w17 ⟨v313,rfl,ho0,hb⟩;refine ⟨_,rfl,?_⟩;have n0_:=am_ (Kd.R_elder' HO306.out (Kd.R_base ho0) hb);have n1_:=am_ (Kd.R_elder' HO309.out (Kd.R_base ho0) hb);have n2_:=am_ (Kd.R_lower (Kd.R_newB (Kd.R_new' (Kd.R_new' ho0 (Kd.R_lt HO306.out)) (Kd.R_lt HO309.out)) (g:=gb299) (o:=.cells #[.int .i8 a1_0,.int .i8 a1_1,.int .i8 a1_2,.int .i8 a1_3] 49 (0,0)) BK299.out) (bZ_ HB.out));have n3_:=am_ (kB_ BK298.out hb);have n4_:=am_ (kB_ BK299.out hb);have n5_:=am_ (kB_ BK300.out hb);have n6_:=am_ (bT_ HB.out hb);clear HO306;clear HO309;clear BK298;clear BK299;clear BK300;clear HB;have HO306:=n0_;have HO309:=n1_;have HO314:=n2_;have BK298:=n3_;have BK299:=n4_;have BK300:=n5_;have HB:=n6_;clear n0_ n1_ n2_ n3_ n4_ n5_ n6_;(try clear hb hb2 hk hi ho0);obtain ⟨Ao20,co20,eo20⟩:=Kd.R_slice HO314.out
  (first|subst eo20|(injection eo20 with f1_ f2_ f3_;have f4_:=f1_.symm;have f5_:=f3_.symm;clear f1_ f2_ f3_;subst f4_;subst f5_))
  refine hK.out _ _ ⟨(kC_ BK298.out 0).trans rfl,(kC_ BK298.out 1).trans rfl,(kC_ BK298.out 2).trans rfl,(kC_ BK299.out 0).trans rfl,(kC_ BK299.out 1).trans rfl,(kC_ BK299.out 2).trans rfl,(kC_ BK299.out 3).trans rfl⟩ (fun hHeld=>?_);clear hK K;refine norm_ (a':=?_) ?_ ?_;rotate_left
  · show Act.put _ (some 12) _ = _;simp only [Act.put,z1_,z2_,z3_,i64_w,i32_w];rfl
  refine one_ (i:=8) (N:=none) (mB_ 9 511) rfl rfl (one_of HT_.out (by kernel_rfl)) (by decide) (fun K hK=>?_);have hs18 : w17.cell? ⟨gb300,0,none⟩ = some (.int .i8 0):=(kC_ BK300.out 0).trans rfl;have hfs18:=kF_ BK300.out 0;have hns18_0:=NB298_300.out;have hns18_1:=NB299_300.out;have hms18_0:=NB300_298.out;have hms18_1:=NB300_299.out;have hs19 : w17.cell? ⟨gb300,1,none⟩ = some (.int .i8 0):=(kC_ BK300.out 1).trans rfl;have hfs19:=kF_ BK300.out 1;have hns19_0:=NB298_300.out;have hns19_1:=NB299_300.out;have hms19_0:=NB300_298.out;have hms19_1:=NB300_299.out;have hs21 : w17.cell? ⟨gb300,2,none⟩ = some (.slice none 0 0):=(kC_ BK300.out 2).trans rfl;have hfs21:=kF_ BK300.out 2;have hns21_0:=NB298_300.out;have hns21_1:=NB299_300.out;have hms21_0:=NB300_298.out;have hms21_1:=NB300_299.out;refine skip_ (w1:=?_) (by rfl) rfl ?_ ?_;rotate_left
  · go_simp;rfl
  refine hK.out _ _ ⟨((cell_far (p:=⟨gb300,_,none⟩) NB298_300.out _).trans (((cell_far (p:=⟨gb300,_,none⟩) NB298_300.out _).trans (((cell_far (p:=⟨gb300,_,none⟩) NB298_300.out _).trans (hHeld.1)))))),((cell_far (p:=⟨gb300,_,none⟩) NB298_300.out _).trans (((cell_far (p:=⟨gb300,_,none⟩) NB298_300.out _).trans (((cell_far (p:=⟨gb300,_,none⟩) NB298_300.out _).trans (hHeld.2.1)))))),((cell_far (p:=⟨gb300,_,none⟩) NB298_300.out _).trans (((cell_far (p:=⟨gb300,_,none⟩) NB298_300.out _).trans (((cell_far (p:=⟨gb300,_,none⟩) NB298_300.out _).trans (hHeld.2.2.1)))))),((cell_far (p:=⟨gb300,_,none⟩) NB299_300.out _).trans (((cell_far (p:=⟨gb300,_,none⟩) NB299_300.out _).trans (((cell_far (p:=⟨gb300,_,none⟩) NB299_300.out _).trans (hHeld.2.2.2.1)))))),((cell_far (p:=⟨gb300,_,none⟩) NB299_300.out _).trans (((cell_far (p:=⟨gb300,_,none⟩) NB299_300.out _).trans (((cell_far (p:=⟨gb300,_,none⟩) NB299_300.out _).trans (hHeld.2.2.2.2.1)))))),((cell_far (p:=⟨gb300,_,none⟩) NB299_300.out _).trans (((cell_far (p:=⟨gb300,_,none⟩) NB299_300.out _).trans (((cell_far (p:=⟨gb300,_,none⟩) NB299_300.out _).trans (hHeld.2.2.2.2.2.1)))))),((cell_far (p:=⟨gb300,_,none⟩) NB299_300.out _).trans (((cell_far (p:=⟨gb300,_,none⟩) NB299_300.out _).trans (((cell_far (p:=⟨gb300,_,none⟩) NB299_300.out _).trans (hHeld.2.2.2.2.2.2))))))⟩ (fun hHeld=>?_);clear hK K;refine done_ (done_of HT_.out (by kernel_rfl)) ?_
  try go_wp2
  refine bodyPost_ret (results_cell_row rfl _ _ gb300 29 #[.int .i8 t310,.int .i8 t311,.slice Ao20 t312.length co20] (0,0) _ rfl (by (with_reducible repeat (first|apply kN_|apply kD_|apply kA_));refine blk_put (cs:=#[.int .i8 t310,.int .i8 t311,.slice none 0 0]) ?_ 2 _ rfl;(with_reducible repeat (first|apply kN_|apply kD_|apply kA_));refine blk_put (cs:=#[.int .i8 t310,.int .i8 0,.slice none 0 0]) ?_ 1 _ rfl;(with_reducible repeat (first|apply kN_|apply kD_|apply kA_));refine blk_put (cs:=#[.int .i8 0,.int .i8 0,.slice none 0 0]) ?_ 0 _ rfl;(with_reducible repeat (first|apply kN_|apply kD_|apply kA_));exact BK300.out) Try.underlying29 rfl (by kernel_rfl)) rfl ?_;exact ⟨_,by first|rfl|(simp [errW_none,errW_some] <;> rfl)|(simp [*,errW_none,errW_some] <;> rfl),by (with_reducible repeat (first|apply Kd.R_alloc|apply Kd.R_drewN|apply Kd.R_drew));exact rM_ (Kd.R_far (p:=⟨gb300,2,none⟩) (Kd.R_far (p:=⟨gb300,1,none⟩) (Kd.R_far (p:=⟨gb300,0,none⟩) (Kd.R_types HO314.out BK300.out (by decide)) (fun _ hk=>hk.2) (.int .i8 t310)) (fun _ hk=>hk.2) (.int .i8 t311)) (fun _ hk=>hk.2) (.slice Ao20 t312.length co20)) (fun _ hk=>trivial),by repeat (first|(with_reducible first|exact HB.out|apply bA_|apply bN_|apply bD_|refine bS_ ?_ GE298.out|refine bS_ ?_ GE299.out|refine bS_ ?_ GE300.out)|exact HB.out)⟩
 · rw [if_neg c4] at H;exact absurd H (by simp)
attribute [local go_sem] max2_int min2_int max_two min_two max_three min_three max_four min_four
set_option linter.unusedVariables false
set_option linter.unusedSimpArgs false
def impl_Slab_meets.f (a0_0 : Int) (a0_1 : Int) (a0_2 : Int) (a0_3 : Int) (a1_0 : Int) (a1_1 : Int) (a1_2 : Int) (a1_3 : Int) : Option (Bool) := if (wrap64 (a0_0)) < (wrap64 ((wrap64 (a1_0)) + (wrap64 (a1_2)))) then (if (wrap64 (a1_0)) < (wrap64 ((wrap64 (a0_0)) + (wrap64 (a0_2)))) then (if (wrap64 (a0_1)) < (wrap64 ((wrap64 (a1_1)) + (wrap64 (a1_3)))) then (some (decide ((wrap64 (a1_1)) < (wrap64 ((wrap64 (a0_1)) + (wrap64 (a0_3))))))) else (some false)) else (some false)) else (some false)
set_option maxHeartbeats 8000000 in
set_option maxRecDepth 100000 in
theorem impl_Slab_meets.calls (a0_0 : Int) (a0_1 : Int) (a0_2 : Int) (a0_3 : Int) (a1_0 : Int) (a1_1 : Int) (a1_2 : Int) (a1_3 : Int) (r : Bool) (w : World) (h : impl_Slab_meets.f a0_0 a0_1 a0_2 a0_3 a1_0 a1_1 a1_2 a1_3 = some r) :
  Calls Try.prog 70 #[.agg #[.int .i8 a0_0,.int .i8 a0_1,.int .i8 a0_2,.int .i8 a0_3],.agg #[.int .i8 a1_0,.int .i8 a1_1,.int .i8 a1_2,.int .i8 a1_3]] w fun e w'=>e = .returned (.bool r) ∧ Below w.heap.size w w':=by
 have hu49:=Try.underlying49;have HB:=am_ (Below.refl w.heap.size w);have H : (if (wrap64 (a0_0)) < (wrap64 ((wrap64 (a1_0)) + (wrap64 (a1_2)))) then (if (wrap64 (a1_0)) < (wrap64 ((wrap64 (a0_0)) + (wrap64 (a0_2)))) then (if (wrap64 (a0_1)) < (wrap64 ((wrap64 (a1_1)) + (wrap64 (a1_3)))) then (some (decide ((wrap64 (a1_1)) < (wrap64 ((wrap64 (a0_1)) + (wrap64 (a0_3))))))) else (some false)) else (some false)) else (some false)) = some r:=h;clear h
 by_cases c3 : (wrap64 (a0_0)) < (wrap64 ((wrap64 (a1_0)) + (wrap64 (a1_2))))
 ·
  rw [if_pos c3] at H;have c3b0 : decide ((wrap64 (a0_0)) < (wrap64 ((wrap64 (a1_0)) + (wrap64 (a1_2))))) = true:=decide_eq_true c3;clear c3
  by_cases c4 : (wrap64 (a1_0)) < (wrap64 ((wrap64 (a0_0)) + (wrap64 (a0_2))))
  ·
   rw [if_pos c4] at H;have c4b0 : decide ((wrap64 (a1_0)) < (wrap64 ((wrap64 (a0_0)) + (wrap64 (a0_2))))) = true:=decide_eq_true c4;clear c4
   by_cases c5 : (wrap64 (a0_1)) < (wrap64 ((wrap64 (a1_1)) + (wrap64 (a1_3))))
   ·
    rw [if_pos c5] at H;have c5b0 : decide ((wrap64 (a0_1)) < (wrap64 ((wrap64 (a1_1)) + (wrap64 (a1_3))))) = true:=decide_eq_true c5;clear c5;obtain rfl:=Option.some.inj H
    go_enter Try.func70,Try.ntmps70
    go_wp2_with (first|((with_reducible refine gate_dst (N:=2) rfl ?_);refine box_event ?hg (N:=2) ?hd (cs:=#[.int .i8 a0_0,.int .i8 a0_1,.int .i8 a0_2,.int .i8 a0_3]) (t:=49) ?hr ?_;(case hd=>rfl);(case hg=>rfl);(case hr=>first|(go_simp;done)|(go_simp;rfl));intro gb317 hg w6 hbox hb;have n0_:=am_ (bT_ HB.out hb);have n1_:=am_ (hbox);have n2_:=am_ ((by rw [hg];exact (bZ_ HB.out) : w.heap.size≤gb317));have n3_:=n2_;clear HB;have HB:=n0_;have BK317:=n1_;have GW317:=n2_;have GE317:=n3_;clear n0_ n1_ n2_ n3_;clear hb hbox hg)|((with_reducible refine gate_dst (N:=3) rfl ?_);refine box_event ?hg (N:=3) ?hd (cs:=#[.int .i8 a1_0,.int .i8 a1_1,.int .i8 a1_2,.int .i8 a1_3]) (t:=49) ?hr ?_;(case hd=>rfl);(case hg=>rfl);(case hr=>first|(go_simp;done)|(go_simp;rfl));intro gb318 hg w7 hbox hb;have n0_:=am_ (kB_ BK317.out hb);have n1_:=am_ (bT_ HB.out hb);have n2_:=am_ (hbox);have n3_:=am_ ((by rw [hg];exact (bZ_ HB.out) : w.heap.size≤gb318));have n4_:=n3_;have n5_:=am_ ((by rw [hg];exact nL_ (kL_ BK317.out) : gb317 ≠ gb318));have n6_:=am_ ((by rw [hg];exact nG_ (kL_ BK317.out) : gb318 ≠ gb317));clear BK317;clear HB;have BK317:=n0_;have HB:=n1_;have BK318:=n2_;have GW318:=n3_;have GE318:=n4_;have NB317_318:=n5_;have NB318_317:=n6_;clear n0_ n1_ n2_ n3_ n4_ n5_ n6_;clear hb hbox hg;have hnb8:=NB317_318.out;have hnc8:=NB318_317.out;have hcz9_0 : w7.cell? ⟨gb317,0,none⟩ = some (.int .i8 a0_0):=(kC_ BK317.out 0).trans rfl;have hcz9_1 : w7.cell? ⟨gb317,1,none⟩ = some (.int .i8 a0_1):=(kC_ BK317.out 1).trans rfl;have hcz9_2 : w7.cell? ⟨gb317,2,none⟩ = some (.int .i8 a0_2):=(kC_ BK317.out 2).trans rfl;have hcz9_3 : w7.cell? ⟨gb317,3,none⟩ = some (.int .i8 a0_3):=(kC_ BK317.out 3).trans rfl;have hfz9_0:=kF_ BK317.out 0;have hfz9_1:=kF_ BK317.out 1;have hfz9_2:=kF_ BK317.out 2;have hfz9_3:=kF_ BK317.out 3;have hcz10_0 : w7.cell? ⟨gb318,0,none⟩ = some (.int .i8 a1_0):=(kC_ BK318.out 0).trans rfl;have hcz10_1 : w7.cell? ⟨gb318,1,none⟩ = some (.int .i8 a1_1):=(kC_ BK318.out 1).trans rfl;have hcz10_2 : w7.cell? ⟨gb318,2,none⟩ = some (.int .i8 a1_2):=(kC_ BK318.out 2).trans rfl;have hcz10_3 : w7.cell? ⟨gb318,3,none⟩ = some (.int .i8 a1_3):=(kC_ BK318.out 3).trans rfl;have hfz10_0:=kF_ BK318.out 0;have hfz10_1:=kF_ BK318.out 1;have hfz10_2:=kF_ BK318.out 2;have hfz10_3:=kF_ BK318.out 3))
    go_ret
    exact ⟨by first|rfl|(simp [errW_none,errW_some] <;> rfl)|(simp [*,errW_none,errW_some] <;> rfl),by repeat (first|(with_reducible first|exact HB.out|apply bA_|apply bN_|apply bD_|refine bS_ ?_ GE317.out|refine bS_ ?_ GE318.out)|exact HB.out)⟩
   ·
    rw [if_neg c5] at H;have c5b0 : decide ((wrap64 (a0_1)) < (wrap64 ((wrap64 (a1_1)) + (wrap64 (a1_3))))) = false:=decide_eq_false c5;clear c5;obtain rfl:=Option.some.inj H
    go_enter Try.func70,Try.ntmps70
    go_wp2_with (first|((with_reducible refine gate_dst (N:=2) rfl ?_);refine box_event ?hg (N:=2) ?hd (cs:=#[.int .i8 a0_0,.int .i8 a0_1,.int .i8 a0_2,.int .i8 a0_3]) (t:=49) ?hr ?_;(case hd=>rfl);(case hg=>rfl);(case hr=>first|(go_simp;done)|(go_simp;rfl));intro gb317 hg w11 hbox hb;have n0_:=am_ (bT_ HB.out hb);have n1_:=am_ (hbox);have n2_:=am_ ((by rw [hg];exact (bZ_ HB.out) : w.heap.size≤gb317));have n3_:=n2_;clear HB;have HB:=n0_;have BK317:=n1_;have GW317:=n2_;have GE317:=n3_;clear n0_ n1_ n2_ n3_;clear hb hbox hg)|((with_reducible refine gate_dst (N:=3) rfl ?_);refine box_event ?hg (N:=3) ?hd (cs:=#[.int .i8 a1_0,.int .i8 a1_1,.int .i8 a1_2,.int .i8 a1_3]) (t:=49) ?hr ?_;(case hd=>rfl);(case hg=>rfl);(case hr=>first|(go_simp;done)|(go_simp;rfl));intro gb318 hg w12 hbox hb;have n0_:=am_ (kB_ BK317.out hb);have n1_:=am_ (bT_ HB.out hb);have n2_:=am_ (hbox);have n3_:=am_ ((by rw [hg];exact (bZ_ HB.out) : w.heap.size≤gb318));have n4_:=n3_;have n5_:=am_ ((by rw [hg];exact nL_ (kL_ BK317.out) : gb317 ≠ gb318));have n6_:=am_ ((by rw [hg];exact nG_ (kL_ BK317.out) : gb318 ≠ gb317));clear BK317;clear HB;have BK317:=n0_;have HB:=n1_;have BK318:=n2_;have GW318:=n3_;have GE318:=n4_;have NB317_318:=n5_;have NB318_317:=n6_;clear n0_ n1_ n2_ n3_ n4_ n5_ n6_;clear hb hbox hg;have hnb13:=NB317_318.out;have hnc13:=NB318_317.out;have hcz14_0 : w12.cell? ⟨gb317,0,none⟩ = some (.int .i8 a0_0):=(kC_ BK317.out 0).trans rfl;have hcz14_1 : w12.cell? ⟨gb317,1,none⟩ = some (.int .i8 a0_1):=(kC_ BK317.out 1).trans rfl;have hcz14_2 : w12.cell? ⟨gb317,2,none⟩ = some (.int .i8 a0_2):=(kC_ BK317.out 2).trans rfl;have hcz14_3 : w12.cell? ⟨gb317,3,none⟩ = some (.int .i8 a0_3):=(kC_ BK317.out 3).trans rfl;have hfz14_0:=kF_ BK317.out 0;have hfz14_1:=kF_ BK317.out 1;have hfz14_2:=kF_ BK317.out 2;have hfz14_3:=kF_ BK317.out 3;have hcz15_0 : w12.cell? ⟨gb318,0,none⟩ = some (.int .i8 a1_0):=(kC_ BK318.out 0).trans rfl;have hcz15_1 : w12.cell? ⟨gb318,1,none⟩ = some (.int .i8 a1_1):=(kC_ BK318.out 1).trans rfl;have hcz15_2 : w12.cell? ⟨gb318,2,none⟩ = some (.int .i8 a1_2):=(kC_ BK318.out 2).trans rfl;have hcz15_3 : w12.cell? ⟨gb318,3,none⟩ = some (.int .i8 a1_3):=(kC_ BK318.out 3).trans rfl;have hfz15_0:=kF_ BK318.out 0;have hfz15_1:=kF_ BK318.out 1;have hfz15_2:=kF_ BK318.out 2;have hfz15_3:=kF_ BK318.out 3))
    go_ret
    exact ⟨by first|rfl|(simp [errW_none,errW_some] <;> rfl)|(simp [*,errW_none,errW_some] <;> rfl),by repeat (first|(with_reducible first|exact HB.out|apply bA_|apply bN_|apply bD_|refine bS_ ?_ GE317.out|refine bS_ ?_ GE318.out)|exact HB.out)⟩
  ·
   rw [if_neg c4] at H;have c4b0 : decide ((wrap64 (a1_0)) < (wrap64 ((wrap64 (a0_0)) + (wrap64 (a0_2))))) = false:=decide_eq_false c4;clear c4;obtain rfl:=Option.some.inj H
   go_enter Try.func70,Try.ntmps70
   go_wp2_with (first|((with_reducible refine gate_dst (N:=2) rfl ?_);refine box_event ?hg (N:=2) ?hd (cs:=#[.int .i8 a0_0,.int .i8 a0_1,.int .i8 a0_2,.int .i8 a0_3]) (t:=49) ?hr ?_;(case hd=>rfl);(case hg=>rfl);(case hr=>first|(go_simp;done)|(go_simp;rfl));intro gb317 hg w16 hbox hb;have n0_:=am_ (bT_ HB.out hb);have n1_:=am_ (hbox);have n2_:=am_ ((by rw [hg];exact (bZ_ HB.out) : w.heap.size≤gb317));have n3_:=n2_;clear HB;have HB:=n0_;have BK317:=n1_;have GW317:=n2_;have GE317:=n3_;clear n0_ n1_ n2_ n3_;clear hb hbox hg)|((with_reducible refine gate_dst (N:=3) rfl ?_);refine box_event ?hg (N:=3) ?hd (cs:=#[.int .i8 a1_0,.int .i8 a1_1,.int .i8 a1_2,.int .i8 a1_3]) (t:=49) ?hr ?_;(case hd=>rfl);(case hg=>rfl);(case hr=>first|(go_simp;done)|(go_simp;rfl));intro gb318 hg w17 hbox hb;have n0_:=am_ (kB_ BK317.out hb);have n1_:=am_ (bT_ HB.out hb);have n2_:=am_ (hbox);have n3_:=am_ ((by rw [hg];exact (bZ_ HB.out) : w.heap.size≤gb318));have n4_:=n3_;have n5_:=am_ ((by rw [hg];exact nL_ (kL_ BK317.out) : gb317 ≠ gb318));have n6_:=am_ ((by rw [hg];exact nG_ (kL_ BK317.out) : gb318 ≠ gb317));clear BK317;clear HB;have BK317:=n0_;have HB:=n1_;have BK318:=n2_;have GW318:=n3_;have GE318:=n4_;have NB317_318:=n5_;have NB318_317:=n6_;clear n0_ n1_ n2_ n3_ n4_ n5_ n6_;clear hb hbox hg;have hnb18:=NB317_318.out;have hnc18:=NB318_317.out;have hcz19_0 : w17.cell? ⟨gb317,0,none⟩ = some (.int .i8 a0_0):=(kC_ BK317.out 0).trans rfl;have hcz19_1 : w17.cell? ⟨gb317,1,none⟩ = some (.int .i8 a0_1):=(kC_ BK317.out 1).trans rfl;have hcz19_2 : w17.cell? ⟨gb317,2,none⟩ = some (.int .i8 a0_2):=(kC_ BK317.out 2).trans rfl;have hcz19_3 : w17.cell? ⟨gb317,3,none⟩ = some (.int .i8 a0_3):=(kC_ BK317.out 3).trans rfl;have hfz19_0:=kF_ BK317.out 0;have hfz19_1:=kF_ BK317.out 1;have hfz19_2:=kF_ BK317.out 2;have hfz19_3:=kF_ BK317.out 3;have hcz20_0 : w17.cell? ⟨gb318,0,none⟩ = some (.int .i8 a1_0):=(kC_ BK318.out 0).trans rfl;have hcz20_1 : w17.cell? ⟨gb318,1,none⟩ = some (.int .i8 a1_1):=(kC_ BK318.out 1).trans rfl;have hcz20_2 : w17.cell? ⟨gb318,2,none⟩ = some (.int .i8 a1_2):=(kC_ BK318.out 2).trans rfl;have hcz20_3 : w17.cell? ⟨gb318,3,none⟩ = some (.int .i8 a1_3):=(kC_ BK318.out 3).trans rfl;have hfz20_0:=kF_ BK318.out 0;have hfz20_1:=kF_ BK318.out 1;have hfz20_2:=kF_ BK318.out 2;have hfz20_3:=kF_ BK318.out 3))
   go_ret
   exact ⟨by first|rfl|(simp [errW_none,errW_some] <;> rfl)|(simp [*,errW_none,errW_some] <;> rfl),by repeat (first|(with_reducible first|exact HB.out|apply bA_|apply bN_|apply bD_|refine bS_ ?_ GE317.out|refine bS_ ?_ GE318.out)|exact HB.out)⟩
 ·
  rw [if_neg c3] at H;have c3b0 : decide ((wrap64 (a0_0)) < (wrap64 ((wrap64 (a1_0)) + (wrap64 (a1_2))))) = false:=decide_eq_false c3;clear c3;obtain rfl:=Option.some.inj H
  go_enter Try.func70,Try.ntmps70
  go_wp2_with (first|((with_reducible refine gate_dst (N:=2) rfl ?_);refine box_event ?hg (N:=2) ?hd (cs:=#[.int .i8 a0_0,.int .i8 a0_1,.int .i8 a0_2,.int .i8 a0_3]) (t:=49) ?hr ?_;(case hd=>rfl);(case hg=>rfl);(case hr=>first|(go_simp;done)|(go_simp;rfl));intro gb317 hg w21 hbox hb;have n0_:=am_ (bT_ HB.out hb);have n1_:=am_ (hbox);have n2_:=am_ ((by rw [hg];exact (bZ_ HB.out) : w.heap.size≤gb317));have n3_:=n2_;clear HB;have HB:=n0_;have BK317:=n1_;have GW317:=n2_;have GE317:=n3_;clear n0_ n1_ n2_ n3_;clear hb hbox hg)|((with_reducible refine gate_dst (N:=3) rfl ?_);refine box_event ?hg (N:=3) ?hd (cs:=#[.int .i8 a1_0,.int .i8 a1_1,.int .i8 a1_2,.int .i8 a1_3]) (t:=49) ?hr ?_;(case hd=>rfl);(case hg=>rfl);(case hr=>first|(go_simp;done)|(go_simp;rfl));intro gb318 hg w22 hbox hb;have n0_:=am_ (kB_ BK317.out hb);have n1_:=am_ (bT_ HB.out hb);have n2_:=am_ (hbox);have n3_:=am_ ((by rw [hg];exact (bZ_ HB.out) : w.heap.size≤gb318));have n4_:=n3_;have n5_:=am_ ((by rw [hg];exact nL_ (kL_ BK317.out) : gb317 ≠ gb318));have n6_:=am_ ((by rw [hg];exact nG_ (kL_ BK317.out) : gb318 ≠ gb317));clear BK317;clear HB;have BK317:=n0_;have HB:=n1_;have BK318:=n2_;have GW318:=n3_;have GE318:=n4_;have NB317_318:=n5_;have NB318_317:=n6_;clear n0_ n1_ n2_ n3_ n4_ n5_ n6_;clear hb hbox hg;have hnb23:=NB317_318.out;have hnc23:=NB318_317.out;have hcz24_0 : w22.cell? ⟨gb317,0,none⟩ = some (.int .i8 a0_0):=(kC_ BK317.out 0).trans rfl;have hcz24_1 : w22.cell? ⟨gb317,1,none⟩ = some (.int .i8 a0_1):=(kC_ BK317.out 1).trans rfl;have hcz24_2 : w22.cell? ⟨gb317,2,none⟩ = some (.int .i8 a0_2):=(kC_ BK317.out 2).trans rfl;have hcz24_3 : w22.cell? ⟨gb317,3,none⟩ = some (.int .i8 a0_3):=(kC_ BK317.out 3).trans rfl;have hfz24_0:=kF_ BK317.out 0;have hfz24_1:=kF_ BK317.out 1;have hfz24_2:=kF_ BK317.out 2;have hfz24_3:=kF_ BK317.out 3;have hcz25_0 : w22.cell? ⟨gb318,0,none⟩ = some (.int .i8 a1_0):=(kC_ BK318.out 0).trans rfl;have hcz25_1 : w22.cell? ⟨gb318,1,none⟩ = some (.int .i8 a1_1):=(kC_ BK318.out 1).trans rfl;have hcz25_2 : w22.cell? ⟨gb318,2,none⟩ = some (.int .i8 a1_2):=(kC_ BK318.out 2).trans rfl;have hcz25_3 : w22.cell? ⟨gb318,3,none⟩ = some (.int .i8 a1_3):=(kC_ BK318.out 3).trans rfl;have hfz25_0:=kF_ BK318.out 0;have hfz25_1:=kF_ BK318.out 1;have hfz25_2:=kF_ BK318.out 2;have hfz25_3:=kF_ BK318.out 3))
  go_ret
  exact ⟨by first|rfl|(simp [errW_none,errW_some] <;> rfl)|(simp [*,errW_none,errW_some] <;> rfl),by repeat (first|(with_reducible first|exact HB.out|apply bA_|apply bN_|apply bD_|refine bS_ ?_ GE317.out|refine bS_ ?_ GE318.out)|exact HB.out)⟩
def impl_within.f (a0 : Int) (a1 : Int) (a2 : Int) : Option (Bool) := if a1 ≤ a0 then (some (decide (a0 ≤ a2))) else (some false)
set_option maxHeartbeats 8000000 in
set_option maxRecDepth 100000 in
theorem impl_within.calls (a0 : Int) (a1 : Int) (a2 : Int) (r : Bool) (w : World) (h : impl_within.f a0 a1 a2 = some r) :
  Calls Try.prog 93 #[.int .i64 a0,.int .i64 a1,.int .i64 a2] w fun e w'=>e = .returned (.bool r) ∧ Drawn0 w w':=by
 have H : (if a1≤a0 then (some (decide (a0≤a2))) else (some false)) = some r:=h;clear h
 by_cases c4 : a1≤a0
 ·
  rw [if_pos c4] at H;have c4b0 : decide (a1≤a0) = true:=decide_eq_true c4;clear c4;obtain rfl:=Option.some.inj H
  go_enter Try.func93,Try.ntmps93
  go_wp2
  go_ret
  exact ⟨by first|rfl|(simp;done)|(simp [*];done),by repeat (first|exact Drawn0.refl _|apply Drawn0.step)⟩
 ·
  rw [if_neg c4] at H;have c4b0 : decide (a1≤a0) = false:=decide_eq_false c4;clear c4;obtain rfl:=Option.some.inj H
  go_enter Try.func93,Try.ntmps93
  go_wp2
  go_ret
  exact ⟨by first|rfl|(simp;done)|(simp [*];done),by repeat (first|exact Drawn0.refl _|apply Drawn0.step)⟩
def impl_isEdge.f (a0 : Int) : Option (Bool) := (impl_within.f a0 1 12).bind fun t319 => (some t319)
set_option maxHeartbeats 8000000 in
set_option maxRecDepth 100000 in
theorem impl_isEdge.calls (a0 : Int) (r : Bool) (w : World) (h : impl_isEdge.f a0 = some r) :
  Calls Try.prog 83 #[.int .i64 a0] w fun e w'=>e = .returned (.bool r) ∧ Drawn0 w w':=by
 have H : ((impl_within.f a0 1 12).bind fun t319=>(some t319)) = some r:=h;clear h;replace H:=Option.bind_eq_some_iff.mp H;obtain ⟨t319,A20,H⟩:=H;replace H : (some t319) = some r:=H;have A2:=am_ A20;clear A20;obtain rfl:=Option.some.inj H
 go_enter Try.func83,Try.ntmps83
 go_wp2_with (first|((with_reducible refine gate_callee (f:=93) rfl ?_);refine goesL_ (some 4) rfl rfl Try.func93 (by kernel_rfl) rfl #[.int .i64 a0,.int .i64 1,.int .i64 12] rfl (by (try simp only [List.map_toArray,List.map_cons,List.map_nil]);first|done|rfl|(simp only [List.length_drop,List.length_take];rfl)) ?_;(with_reducible refine (impl_within.calls a0 1 12 t319 _ A2.out).mono ?_);rintro e w' ⟨rfl,⟨nd,rfl⟩⟩;refine ⟨_,rfl,?_⟩))
 go_ret
 exact ⟨by first|rfl|(simp;done)|(simp [*];done),by repeat (first|exact Drawn0.refl _|apply Drawn0.step)⟩
def slices_IndexFunc_impl_Slab_at_impl_Slab_meets.l0 : Nat → List (S49) → Int → Int → Int → Int → Int → Int → Option (Int)
 | 0,_,_,_,_,_,_,_=>none
 | k + 1,x0,x7,x8,x2000,x2001,x2002,x2003=>if x8 < x7 then (if 0≤x8 then (if x8 < (x0.length : Int) then ((impl_Slab_meets.f x2000 x2001 x2002 x2003 ((rd_T49 x0 x8).f0) ((rd_T49 x0 x8).f1) ((rd_T49 x0 x8).f2) ((rd_T49 x0 x8).f3)).bind fun t331=>(if t331 = true then (some x8) else (slices_IndexFunc_impl_Slab_at_impl_Slab_meets.l0 k x0 x7 (wrap64 (x8 + 1)) x2000 x2001 x2002 x2003))) else (none)) else (none)) else (some (-1))
def slices_IndexFunc_impl_Slab_at_impl_Slab_meets.f (k : Nat) (l0 : List (S49)) (a1_0 : Int) (a1_1 : Int) (a1_2 : Int) (a1_3 : Int) : Option (Int) := slices_IndexFunc_impl_Slab_at_impl_Slab_meets.l0 k l0 (l0.length : Int) 0 a1_0 a1_1 a1_2 a1_3
theorem slices_IndexFunc_impl_Slab_at_impl_Slab_meets.mono_l : ∀ k, (∀ y0 y1 y2 y3 y4 y5 y6, LeO (slices_IndexFunc_impl_Slab_at_impl_Slab_meets.l0 k y0 y1 y2 y3 y4 y5 y6) (slices_IndexFunc_impl_Slab_at_impl_Slab_meets.l0 (k + 1) y0 y1 y2 y3 y4 y5 y6))
 | 0=>fun _ _ _ _ _ _ _ r h=>by simp [slices_IndexFunc_impl_Slab_at_impl_Slab_meets.l0] at h
 | k + 1=>by
  have ih0:=slices_IndexFunc_impl_Slab_at_impl_Slab_meets.mono_l k
  ·
   intro y0 y1 y2 y3 y4 y5 y6
   unfold slices_IndexFunc_impl_Slab_at_impl_Slab_meets.l0
   repeat' first
   | (with_reducible exact ih0 _ _ _ _ _ _ _)
   | (with_reducible exact LeO.refl _)
   | (with_reducible exact LeO.none _)
   | (with_reducible refine LeO.ite ?_ ?_)
   | (with_reducible refine LeO.bind ?_ (fun _=>?_))
   | exact ih0 _ _ _ _ _ _ _
   | exact LeO.none _
   | refine LeO.ite ?_ ?_
   | refine LeO.bind ?_ (fun _=>?_)
theorem slices_IndexFunc_impl_Slab_at_impl_Slab_meets.mono : ∀ a0 a1 a2 a3 a4 k, LeO (slices_IndexFunc_impl_Slab_at_impl_Slab_meets.f k a0 a1 a2 a3 a4) (slices_IndexFunc_impl_Slab_at_impl_Slab_meets.f (k + 1) a0 a1 a2 a3 a4) := by
 intro a0 a1 a2 a3 a4 k;have ih0:=slices_IndexFunc_impl_Slab_at_impl_Slab_meets.mono_l k
 unfold slices_IndexFunc_impl_Slab_at_impl_Slab_meets.f
 repeat' first
   | (with_reducible exact ih0 _ _ _ _ _ _ _)
   | (with_reducible exact LeO.refl _)
   | (with_reducible exact LeO.none _)
   | (with_reducible refine LeO.ite ?_ ?_)
   | (with_reducible refine LeO.bind ?_ (fun _=>?_))
   | exact ih0 _ _ _ _ _ _ _
   | exact LeO.none _
   | refine LeO.ite ?_ ?_
   | refine LeO.bind ?_ (fun _=>?_)
set_option maxHeartbeats 8000000 in
set_option maxRecDepth 100000 in
theorem slices_IndexFunc_impl_Slab_at_impl_Slab_meets.calls (k : Nat) (A0 : Option Addr) (c0 : Nat) (l0 : List (S49)) (a1_0 : Int) (a1_1 : Int) (a1_2 : Int) (a1_3 : Int) (r : Int) (w : World) (hr0 : Kd.C k49 w A0 l0.length l0) (hc0 : l0.length ≤ c0) (h : slices_IndexFunc_impl_Slab_at_impl_Slab_meets.f k l0 a1_0 a1_1 a1_2 a1_3 = some r) :
  Calls Try.prog 97 #[.slice A0 l0.length c0,.func (.func 70) #[.agg #[.int .i8 a1_0,.int .i8 a1_1,.int .i8 a1_2,.int .i8 a1_3]] #[]] w fun e w'=>e = .returned (.int .i64 r) ∧ Below w.heap.size w w':=by
 have hu49:=Try.underlying49;have HR0:=am_ hr0;have HC0:=am_ hc0;clear hr0 hc0;have HB:=am_ (Below.refl w.heap.size w);have H : (slices_IndexFunc_impl_Slab_at_impl_Slab_meets.l0 k l0 (l0.length : Int) 0 a1_0 a1_1 a1_2 a1_3) = some r:=h;clear h;have H':=am_ H;clear H
 go_enter Try.func97,Try.ntmps97
 go_wp2
 go_loopg [8] k (fun kq v8 w'=>∃ (x8_1 : Int),v8 = .int .i64 x8_1 ∧ Aside0 (slices_IndexFunc_impl_Slab_at_impl_Slab_meets.l0 kq l0 (l0.length : Int) x8_1 a1_0 a1_1 a1_2 a1_3 = some r) ∧ Aside0 (kq≤k) ∧ Aside0 (Below w.heap.size w w'))
 case atStart=>exact ⟨(0),(by first|rfl|(simp;done)|(simp [*];done)),H',⟨Nat.le_refl _⟩,⟨by repeat (first|(with_reducible first|exact HB.out|apply bA_|apply bN_|apply bD_)|exact HB.out)⟩⟩
 case round =>
  clear H';(try clear c1);(try clear p2);obtain ⟨x8_1,rfl,HA,HK1,HB⟩:=hrel
  cases gk with
  | zero=>exact absurd HA.out (by simp [slices_IndexFunc_impl_Slab_at_impl_Slab_meets.l0])
  | succ k1 =>
   have H:=HA.out;clear HA;simp only [slices_IndexFunc_impl_Slab_at_impl_Slab_meets.l0] at H
   by_cases c3 : x8_1 < (l0.length : Int)
   ·
    rw [if_pos c3] at H;have c3b0 : decide (x8_1 < (l0.length : Int)) = true:=decide_eq_true c3;clear c3
    by_cases c4 : 0≤x8_1
    ·
     rw [if_pos c4] at H;have c4b0 : decide (0≤x8_1) = true:=decide_eq_true c4;clear c4
     by_cases c5 : x8_1 < (l0.length : Int)
     ·
      rw [if_pos c5] at H;have c5b0 : decide (x8_1 < (l0.length : Int)) = true:=decide_eq_true c5;clear c5;replace H:=Option.bind_eq_some_iff.mp H;obtain ⟨t331,A60,H⟩:=H;replace H : (if t331 = true then (some x8_1) else (slices_IndexFunc_impl_Slab_at_impl_Slab_meets.l0 k1 l0 (l0.length : Int) (wrap64 (x8_1 + 1)) a1_0 a1_1 a1_2 a1_3)) = some r:=H;have A6:=am_ A60;clear A60
      by_cases c7 : t331 = true
      ·
       subst c7;have H1 : (some x8_1) = some r:=by rw [if_pos rfl] at H;exact H
       clear H;have H:=H1;clear H1;obtain rfl:=Option.some.inj H;have p330 : 0≤(x8_1 : Int):=od_ (by first|(with_reducible assumption)|assumption);have q330 : x8_1 < (l0.length : Int):=od_ (by first|(with_reducible assumption)|assumption);obtain ⟨ad330,e330,hx330_0,hx330_1,hx330_2,hx330_3⟩:=at_T49 HR0.out x8_1 p330 q330
       cases e330
       replace hx330_0:=(HB.out.cell (bl_ w _ hx330_0)).trans hx330_0;replace hx330_1:=(HB.out.cell (bl_ w _ hx330_1)).trans hx330_1;replace hx330_2:=(HB.out.cell (bl_ w _ hx330_2)).trans hx330_2;replace hx330_3:=(HB.out.cell (bl_ w _ hx330_3)).trans hx330_3;replace p330:=eq_true p330;replace q330:=eq_true q330
       go_wp2_with (first|(go_at_call 70;(with_reducible refine (impl_Slab_meets.calls a1_0 a1_1 a1_2 a1_3 ((rd_T49 l0 x8_1).f0) ((rd_T49 l0 x8_1).f1) ((rd_T49 l0 x8_1).f2) ((rd_T49 l0 x8_1).f3) true _ A6.out).mono ?_);rintro e w8 ⟨rfl,hb⟩;replace HB:=am_ (bT_ HB.out hb);(try clear hb hb2 hk hi)))
       go_ret
       exact ⟨by first|rfl|(simp [errW_none,errW_some] <;> rfl)|(simp [*,errW_none,errW_some] <;> rfl),by repeat (first|(with_reducible first|exact HB.out|apply bA_|apply bN_|apply bD_)|exact HB.out)⟩
      ·
       replace c7:=Bool.eq_false_iff.mpr c7;subst c7;have H1 : (slices_IndexFunc_impl_Slab_at_impl_Slab_meets.l0 k1 l0 (l0.length : Int) (wrap64 (x8_1 + 1)) a1_0 a1_1 a1_2 a1_3) = some r:=by rw [if_neg (show ¬ (false = true) by decide)] at H;exact H
       clear H;have H:=H1;clear H1;have H':=am_ H;clear H;have p330 : 0≤(x8_1 : Int):=od_ (by first|(with_reducible assumption)|assumption);have q330 : x8_1 < (l0.length : Int):=od_ (by first|(with_reducible assumption)|assumption);obtain ⟨ad330,e330,hx330_0,hx330_1,hx330_2,hx330_3⟩:=at_T49 HR0.out x8_1 p330 q330
       cases e330
       replace hx330_0:=(HB.out.cell (bl_ w _ hx330_0)).trans hx330_0;replace hx330_1:=(HB.out.cell (bl_ w _ hx330_1)).trans hx330_1;replace hx330_2:=(HB.out.cell (bl_ w _ hx330_2)).trans hx330_2;replace hx330_3:=(HB.out.cell (bl_ w _ hx330_3)).trans hx330_3;replace p330:=eq_true p330;replace q330:=eq_true q330
       go_wp2_with (first|(go_at_call 70;(with_reducible refine (impl_Slab_meets.calls a1_0 a1_1 a1_2 a1_3 ((rd_T49 l0 x8_1).f0) ((rd_T49 l0 x8_1).f1) ((rd_T49 l0 x8_1).f2) ((rd_T49 l0 x8_1).f3) false _ A6.out).mono ?_);rintro e w9 ⟨rfl,hb⟩;replace HB:=am_ (bT_ HB.out hb);(try clear hb hb2 hk hi)))
       go_roundg k1
       case measure=>have:=HK1.out;omega
       case rel=>exact ⟨(wrap64 (x8_1 + 1)),(by first|rfl|(simp;done)|(simp [*];done)),H',⟨by have:=HK1.out;omega⟩,⟨by repeat (first|(with_reducible first|exact HB.out|apply bA_|apply bN_|apply bD_)|exact HB.out)⟩⟩
     · rw [if_neg c5] at H;exact absurd H (by simp)
    · rw [if_neg c4] at H;exact absurd H (by simp)
   ·
    rw [if_neg c3] at H;have c3b0 : decide (x8_1 < (l0.length : Int)) = false:=decide_eq_false c3;clear c3;obtain rfl:=Option.some.inj H
    go_wp2
    go_ret
    exact ⟨by first|rfl|(simp [errW_none,errW_some] <;> rfl)|(simp [*,errW_none,errW_some] <;> rfl),by repeat (first|(with_reducible first|exact HB.out|apply bA_|apply bN_|apply bD_)|exact HB.out)⟩
def slices_ContainsFunc_impl_Slab_at_impl_Slab_meets.f (k : Nat) (l0 : List (S49)) (a1_0 : Int) (a1_1 : Int) (a1_2 : Int) (a1_3 : Int) : Option (Bool) := (slices_IndexFunc_impl_Slab_at_impl_Slab_meets.f k l0 a1_0 a1_1 a1_2 a1_3).bind fun t332 => (some (decide (t332 ≥ 0)))
theorem slices_ContainsFunc_impl_Slab_at_impl_Slab_meets.mono : ∀ a0 a1 a2 a3 a4 k, LeO (slices_ContainsFunc_impl_Slab_at_impl_Slab_meets.f k a0 a1 a2 a3 a4) (slices_ContainsFunc_impl_Slab_at_impl_Slab_meets.f (k + 1) a0 a1 a2 a3 a4) := by
 intro a0 a1 a2 a3 a4 k
 unfold slices_ContainsFunc_impl_Slab_at_impl_Slab_meets.f
 repeat' first
   | (with_reducible exact slices_IndexFunc_impl_Slab_at_impl_Slab_meets.mono _ _ _ _ _ _)
   | (with_reducible exact LeO.refl _)
   | (with_reducible exact LeO.none _)
   | (with_reducible refine LeO.ite ?_ ?_)
   | (with_reducible refine LeO.bind ?_ (fun _=>?_))
   | exact slices_IndexFunc_impl_Slab_at_impl_Slab_meets.mono _ _ _ _ _ _
   | exact LeO.none _
   | refine LeO.ite ?_ ?_
   | refine LeO.bind ?_ (fun _=>?_)
set_option maxHeartbeats 8000000 in
set_option maxRecDepth 100000 in
theorem slices_ContainsFunc_impl_Slab_at_impl_Slab_meets.calls (k : Nat) (A0 : Option Addr) (c0 : Nat) (l0 : List (S49)) (a1_0 : Int) (a1_1 : Int) (a1_2 : Int) (a1_3 : Int) (r : Bool) (w : World) (hr0 : Kd.C k49 w A0 l0.length l0) (hc0 : l0.length ≤ c0) (h : slices_ContainsFunc_impl_Slab_at_impl_Slab_meets.f k l0 a1_0 a1_1 a1_2 a1_3 = some r) :
  Calls Try.prog 87 #[.slice A0 l0.length c0,.func (.func 70) #[.agg #[.int .i8 a1_0,.int .i8 a1_1,.int .i8 a1_2,.int .i8 a1_3]] #[]] w fun e w'=>e = .returned (.bool r) ∧ Below w.heap.size w w':=by
 have HR0:=am_ hr0;have HC0:=am_ hc0;clear hr0 hc0;have HB:=am_ (Below.refl w.heap.size w);have H : ((slices_IndexFunc_impl_Slab_at_impl_Slab_meets.f k l0 a1_0 a1_1 a1_2 a1_3).bind fun t332=>(some (decide (t332 ≥ 0)))) = some r:=h;clear h;replace H:=Option.bind_eq_some_iff.mp H;obtain ⟨t332,A30,H⟩:=H;replace H : (some (decide (t332 ≥ 0))) = some r:=H;have A3:=am_ A30;clear A30;obtain rfl:=Option.some.inj H
 go_enter Try.func87,Try.ntmps87
 go_wp2_with (first|((with_reducible refine gate_callee (f:=97) rfl ?_);refine goesL_ (some 7) rfl rfl Try.func97 (by kernel_rfl) rfl #[.slice A0 l0.length c0,.func (.func 70) #[.agg #[.int .i8 a1_0,.int .i8 a1_1,.int .i8 a1_2,.int .i8 a1_3]] #[]] rfl (by (try simp only [List.map_toArray,List.map_cons,List.map_nil]);first|done|rfl|(simp only [List.length_drop,List.length_take];rfl)) ?_;(with_reducible refine (slices_IndexFunc_impl_Slab_at_impl_Slab_meets.calls k _ _ l0 a1_0 a1_1 a1_2 a1_3 t332 _ ?side1 ?side2 A3.out).mono ?_);(case side1=>repeat (first|exact HR0.out|(with_reducible refine Kd.C_alloc ?_ _)|(with_reducible refine Kd.C_drewN ?_ _)|(with_reducible refine Kd.C_drew ?_)));(case side2=>exact HC0.out);rintro e w4 ⟨rfl,hb⟩;refine ⟨_,rfl,?_⟩;replace HB:=am_ (bT_ HB.out hb);(try clear hb hb2 hk hi)))
 go_ret
 exact ⟨by first|rfl|(simp [errW_none,errW_some] <;> rfl)|(simp [*,errW_none,errW_some] <;> rfl),by repeat (first|(with_reducible first|exact HB.out|apply bA_|apply bN_|apply bD_)|exact HB.out)⟩
attribute [local go_sem] max2_int min2_int max_two min_two max_three min_three max_four min_four
set_option linter.unusedVariables false
set_option linter.unusedSimpArgs false
def impl_Slab_isIn.f (a0_0 : Int) (a0_1 : Int) (a0_2 : Int) (a0_3 : Int) (a1_0 : Int) (a1_1 : Int) (l1_2 : List (S49)) : Option (Bool) := if a0_2 ≥ 1 then (if a0_3 ≥ 1 then (if a0_0 ≥ 0 then (if a0_1 ≥ 0 then (if (wrap64 ((wrap64 (a0_0)) + (wrap64 (a0_2)))) ≤ (wrap64 (a1_0)) then (some (decide ((wrap64 ((wrap64 (a0_1)) + (wrap64 (a0_3)))) ≤ (wrap64 (a1_1))))) else (some false)) else (some false)) else (some false)) else (some false)) else (some false)
set_option maxHeartbeats 8000000 in
set_option maxRecDepth 100000 in
theorem impl_Slab_isIn.calls (a0_0 : Int) (a0_1 : Int) (a0_2 : Int) (a0_3 : Int) (a1_0 : Int) (a1_1 : Int) (A1_2 : Option Addr) (c1_2 : Nat) (l1_2 : List (S49)) (r : Bool) (w : World) (hr1_2 : Kd.C k49 w A1_2 l1_2.length l1_2) (hc1_2 : l1_2.length ≤ c1_2) (h : impl_Slab_isIn.f a0_0 a0_1 a0_2 a0_3 a1_0 a1_1 l1_2 = some r) :
  Calls Try.prog 69 #[.agg #[.int .i8 a0_0,.int .i8 a0_1,.int .i8 a0_2,.int .i8 a0_3],.agg #[.int .i8 a1_0,.int .i8 a1_1,.slice A1_2 l1_2.length c1_2]] w fun e w'=>e = .returned (.bool r) ∧ Below w.heap.size w w':=by
 have hu49:=Try.underlying49;have hu29:=Try.underlying29;have HR1_2:=am_ hr1_2;have HC1_2:=am_ hc1_2;clear hr1_2 hc1_2;have HB:=am_ (Below.refl w.heap.size w);have H : (if a0_2 ≥ 1 then (if a0_3 ≥ 1 then (if a0_0 ≥ 0 then (if a0_1 ≥ 0 then (if (wrap64 ((wrap64 (a0_0)) + (wrap64 (a0_2))))≤(wrap64 (a1_0)) then (some (decide ((wrap64 ((wrap64 (a0_1)) + (wrap64 (a0_3))))≤(wrap64 (a1_1))))) else (some false)) else (some false)) else (some false)) else (some false)) else (some false)) = some r:=h;clear h
 by_cases c3 : a0_2 ≥ 1
 ·
  rw [if_pos c3] at H;have c3b0 : decide (1≤a0_2) = true:=decide_eq_true c3;clear c3
  by_cases c4 : a0_3 ≥ 1
  ·
   rw [if_pos c4] at H;have c4b0 : decide (1≤a0_3) = true:=decide_eq_true c4;clear c4
   by_cases c5 : a0_0 ≥ 0
   ·
    rw [if_pos c5] at H;have c5b0 : decide (0≤a0_0) = true:=decide_eq_true c5;clear c5
    by_cases c6 : a0_1 ≥ 0
    ·
     rw [if_pos c6] at H;have c6b0 : decide (0≤a0_1) = true:=decide_eq_true c6;clear c6
     by_cases c7 : (wrap64 ((wrap64 (a0_0)) + (wrap64 (a0_2))))≤(wrap64 (a1_0))
     ·
      rw [if_pos c7] at H;have c7b0 : decide ((wrap64 ((wrap64 (a0_0)) + (wrap64 (a0_2))))≤(wrap64 (a1_0))) = true:=decide_eq_true c7;clear c7;obtain rfl:=Option.some.inj H
      go_enter Try.func69,Try.ntmps69
      go_wp2_with (first|((with_reducible refine gate_dst (N:=2) rfl ?_);refine box_event ?hg (N:=2) ?hd (cs:=#[.int .i8 a0_0,.int .i8 a0_1,.int .i8 a0_2,.int .i8 a0_3]) (t:=49) ?hr ?_;(case hd=>rfl);(case hg=>rfl);(case hr=>first|(go_simp;done)|(go_simp;rfl));intro gb315 hg w8 hbox hb;have n0_:=am_ (bT_ HB.out hb);have n1_:=am_ (hbox);have n2_:=am_ ((by rw [hg];exact (bZ_ HB.out) : w.heap.size≤gb315));have n3_:=n2_;clear HB;have HB:=n0_;have BK315:=n1_;have GW315:=n2_;have GE315:=n3_;clear n0_ n1_ n2_ n3_;clear hb hbox hg)|((with_reducible refine gate_dst (N:=3) rfl ?_);refine box_event ?hg (N:=3) ?hd (cs:=#[.int .i8 a1_0,.int .i8 a1_1,.slice A1_2 l1_2.length c1_2]) (t:=29) ?hr ?_;(case hd=>rfl);(case hg=>rfl);(case hr=>first|(go_simp;done)|(go_simp;rfl));intro gb316 hg w9 hbox hb;have n0_:=am_ (kB_ BK315.out hb);have n1_:=am_ (bT_ HB.out hb);have n2_:=am_ (hbox);have n3_:=am_ ((by rw [hg];exact (bZ_ HB.out) : w.heap.size≤gb316));have n4_:=n3_;have n5_:=am_ ((by rw [hg];exact nL_ (kL_ BK315.out) : gb315 ≠ gb316));have n6_:=am_ ((by rw [hg];exact nG_ (kL_ BK315.out) : gb316 ≠ gb315));clear BK315;clear HB;have BK315:=n0_;have HB:=n1_;have BK316:=n2_;have GW316:=n3_;have GE316:=n4_;have NB315_316:=n5_;have NB316_315:=n6_;clear n0_ n1_ n2_ n3_ n4_ n5_ n6_;clear hb hbox hg;have hnb10:=NB315_316.out;have hnc10:=NB316_315.out;have hcz11_0 : w9.cell? ⟨gb315,0,none⟩ = some (.int .i8 a0_0):=(kC_ BK315.out 0).trans rfl;have hcz11_1 : w9.cell? ⟨gb315,1,none⟩ = some (.int .i8 a0_1):=(kC_ BK315.out 1).trans rfl;have hcz11_2 : w9.cell? ⟨gb315,2,none⟩ = some (.int .i8 a0_2):=(kC_ BK315.out 2).trans rfl;have hcz11_3 : w9.cell? ⟨gb315,3,none⟩ = some (.int .i8 a0_3):=(kC_ BK315.out 3).trans rfl;have hfz11_0:=kF_ BK315.out 0;have hfz11_1:=kF_ BK315.out 1;have hfz11_2:=kF_ BK315.out 2;have hfz11_3:=kF_ BK315.out 3;have hcz12_0 : w9.cell? ⟨gb316,0,none⟩ = some (.int .i8 a1_0):=(kC_ BK316.out 0).trans rfl;have hcz12_1 : w9.cell? ⟨gb316,1,none⟩ = some (.int .i8 a1_1):=(kC_ BK316.out 1).trans rfl;have hcz12_2 : w9.cell? ⟨gb316,2,none⟩ = some (.slice A1_2 l1_2.length c1_2):=(kC_ BK316.out 2).trans rfl;have hfz12_0:=kF_ BK316.out 0;have hfz12_1:=kF_ BK316.out 1;have hfz12_2:=kF_ BK316.out 2))
      go_ret
      exact ⟨by first|rfl|(simp [errW_none,errW_some] <;> rfl)|(simp [*,errW_none,errW_some] <;> rfl),by repeat (first|(with_reducible first|exact HB.out|apply bA_|apply bN_|apply bD_|refine bS_ ?_ GE315.out|refine bS_ ?_ GE316.out)|exact HB.out)⟩
     ·
      rw [if_neg c7] at H;have c7b0 : decide ((wrap64 ((wrap64 (a0_0)) + (wrap64 (a0_2))))≤(wrap64 (a1_0))) = false:=decide_eq_false c7;clear c7;obtain rfl:=Option.some.inj H
      go_enter Try.func69,Try.ntmps69
      go_wp2_with (first|((with_reducible refine gate_dst (N:=2) rfl ?_);refine box_event ?hg (N:=2) ?hd (cs:=#[.int .i8 a0_0,.int .i8 a0_1,.int .i8 a0_2,.int .i8 a0_3]) (t:=49) ?hr ?_;(case hd=>rfl);(case hg=>rfl);(case hr=>first|(go_simp;done)|(go_simp;rfl));intro gb315 hg w13 hbox hb;have n0_:=am_ (bT_ HB.out hb);have n1_:=am_ (hbox);have n2_:=am_ ((by rw [hg];exact (bZ_ HB.out) : w.heap.size≤gb315));have n3_:=n2_;clear HB;have HB:=n0_;have BK315:=n1_;have GW315:=n2_;have GE315:=n3_;clear n0_ n1_ n2_ n3_;clear hb hbox hg)|((with_reducible refine gate_dst (N:=3) rfl ?_);refine box_event ?hg (N:=3) ?hd (cs:=#[.int .i8 a1_0,.int .i8 a1_1,.slice A1_2 l1_2.length c1_2]) (t:=29) ?hr ?_;(case hd=>rfl);(case hg=>rfl);(case hr=>first|(go_simp;done)|(go_simp;rfl));intro gb316 hg w14 hbox hb;have n0_:=am_ (kB_ BK315.out hb);have n1_:=am_ (bT_ HB.out hb);have n2_:=am_ (hbox);have n3_:=am_ ((by rw [hg];exact (bZ_ HB.out) : w.heap.size≤gb316));have n4_:=n3_;have n5_:=am_ ((by rw [hg];exact nL_ (kL_ BK315.out) : gb315 ≠ gb316));have n6_:=am_ ((by rw [hg];exact nG_ (kL_ BK315.out) : gb316 ≠ gb315));clear BK315;clear HB;have BK315:=n0_;have HB:=n1_;have BK316:=n2_;have GW316:=n3_;have GE316:=n4_;have NB315_316:=n5_;have NB316_315:=n6_;clear n0_ n1_ n2_ n3_ n4_ n5_ n6_;clear hb hbox hg;have hnb15:=NB315_316.out;have hnc15:=NB316_315.out;have hcz16_0 : w14.cell? ⟨gb315,0,none⟩ = some (.int .i8 a0_0):=(kC_ BK315.out 0).trans rfl;have hcz16_1 : w14.cell? ⟨gb315,1,none⟩ = some (.int .i8 a0_1):=(kC_ BK315.out 1).trans rfl;have hcz16_2 : w14.cell? ⟨gb315,2,none⟩ = some (.int .i8 a0_2):=(kC_ BK315.out 2).trans rfl;have hcz16_3 : w14.cell? ⟨gb315,3,none⟩ = some (.int .i8 a0_3):=(kC_ BK315.out 3).trans rfl;have hfz16_0:=kF_ BK315.out 0;have hfz16_1:=kF_ BK315.out 1;have hfz16_2:=kF_ BK315.out 2;have hfz16_3:=kF_ BK315.out 3;have hcz17_0 : w14.cell? ⟨gb316,0,none⟩ = some (.int .i8 a1_0):=(kC_ BK316.out 0).trans rfl;have hcz17_1 : w14.cell? ⟨gb316,1,none⟩ = some (.int .i8 a1_1):=(kC_ BK316.out 1).trans rfl;have hcz17_2 : w14.cell? ⟨gb316,2,none⟩ = some (.slice A1_2 l1_2.length c1_2):=(kC_ BK316.out 2).trans rfl;have hfz17_0:=kF_ BK316.out 0;have hfz17_1:=kF_ BK316.out 1;have hfz17_2:=kF_ BK316.out 2))
      go_ret
      exact ⟨by first|rfl|(simp [errW_none,errW_some] <;> rfl)|(simp [*,errW_none,errW_some] <;> rfl),by repeat (first|(with_reducible first|exact HB.out|apply bA_|apply bN_|apply bD_|refine bS_ ?_ GE315.out|refine bS_ ?_ GE316.out)|exact HB.out)⟩
    ·
     rw [if_neg c6] at H;have c6b0 : decide (0≤a0_1) = false:=decide_eq_false c6;clear c6;obtain rfl:=Option.some.inj H
     go_enter Try.func69,Try.ntmps69
     go_wp2_with (first|((with_reducible refine gate_dst (N:=2) rfl ?_);refine box_event ?hg (N:=2) ?hd (cs:=#[.int .i8 a0_0,.int .i8 a0_1,.int .i8 a0_2,.int .i8 a0_3]) (t:=49) ?hr ?_;(case hd=>rfl);(case hg=>rfl);(case hr=>first|(go_simp;done)|(go_simp;rfl));intro gb315 hg w18 hbox hb;have n0_:=am_ (bT_ HB.out hb);have n1_:=am_ (hbox);have n2_:=am_ ((by rw [hg];exact (bZ_ HB.out) : w.heap.size≤gb315));have n3_:=n2_;clear HB;have HB:=n0_;have BK315:=n1_;have GW315:=n2_;have GE315:=n3_;clear n0_ n1_ n2_ n3_;clear hb hbox hg)|((with_reducible refine gate_dst (N:=3) rfl ?_);refine box_event ?hg (N:=3) ?hd (cs:=#[.int .i8 a1_0,.int .i8 a1_1,.slice A1_2 l1_2.length c1_2]) (t:=29) ?hr ?_;(case hd=>rfl);(case hg=>rfl);(case hr=>first|(go_simp;done)|(go_simp;rfl));intro gb316 hg w19 hbox hb;have n0_:=am_ (kB_ BK315.out hb);have n1_:=am_ (bT_ HB.out hb);have n2_:=am_ (hbox);have n3_:=am_ ((by rw [hg];exact (bZ_ HB.out) : w.heap.size≤gb316));have n4_:=n3_;have n5_:=am_ ((by rw [hg];exact nL_ (kL_ BK315.out) : gb315 ≠ gb316));have n6_:=am_ ((by rw [hg];exact nG_ (kL_ BK315.out) : gb316 ≠ gb315));clear BK315;clear HB;have BK315:=n0_;have HB:=n1_;have BK316:=n2_;have GW316:=n3_;have GE316:=n4_;have NB315_316:=n5_;have NB316_315:=n6_;clear n0_ n1_ n2_ n3_ n4_ n5_ n6_;clear hb hbox hg;have hnb20:=NB315_316.out;have hnc20:=NB316_315.out;have hcz21_0 : w19.cell? ⟨gb315,0,none⟩ = some (.int .i8 a0_0):=(kC_ BK315.out 0).trans rfl;have hcz21_1 : w19.cell? ⟨gb315,1,none⟩ = some (.int .i8 a0_1):=(kC_ BK315.out 1).trans rfl;have hcz21_2 : w19.cell? ⟨gb315,2,none⟩ = some (.int .i8 a0_2):=(kC_ BK315.out 2).trans rfl;have hcz21_3 : w19.cell? ⟨gb315,3,none⟩ = some (.int .i8 a0_3):=(kC_ BK315.out 3).trans rfl;have hfz21_0:=kF_ BK315.out 0;have hfz21_1:=kF_ BK315.out 1;have hfz21_2:=kF_ BK315.out 2;have hfz21_3:=kF_ BK315.out 3))
     go_ret
     exact ⟨by first|rfl|(simp [errW_none,errW_some] <;> rfl)|(simp [*,errW_none,errW_some] <;> rfl),by repeat (first|(with_reducible first|exact HB.out|apply bA_|apply bN_|apply bD_|refine bS_ ?_ GE315.out|refine bS_ ?_ GE316.out)|exact HB.out)⟩
   ·
    rw [if_neg c5] at H;have c5b0 : decide (0≤a0_0) = false:=decide_eq_false c5;clear c5;obtain rfl:=Option.some.inj H
    go_enter Try.func69,Try.ntmps69
    go_wp2_with (first|((with_reducible refine gate_dst (N:=2) rfl ?_);refine box_event ?hg (N:=2) ?hd (cs:=#[.int .i8 a0_0,.int .i8 a0_1,.int .i8 a0_2,.int .i8 a0_3]) (t:=49) ?hr ?_;(case hd=>rfl);(case hg=>rfl);(case hr=>first|(go_simp;done)|(go_simp;rfl));intro gb315 hg w22 hbox hb;have n0_:=am_ (bT_ HB.out hb);have n1_:=am_ (hbox);have n2_:=am_ ((by rw [hg];exact (bZ_ HB.out) : w.heap.size≤gb315));have n3_:=n2_;clear HB;have HB:=n0_;have BK315:=n1_;have GW315:=n2_;have GE315:=n3_;clear n0_ n1_ n2_ n3_;clear hb hbox hg)|((with_reducible refine gate_dst (N:=3) rfl ?_);refine box_event ?hg (N:=3) ?hd (cs:=#[.int .i8 a1_0,.int .i8 a1_1,.slice A1_2 l1_2.length c1_2]) (t:=29) ?hr ?_;(case hd=>rfl);(case hg=>rfl);(case hr=>first|(go_simp;done)|(go_simp;rfl));intro gb316 hg w23 hbox hb;have n0_:=am_ (kB_ BK315.out hb);have n1_:=am_ (bT_ HB.out hb);have n2_:=am_ (hbox);have n3_:=am_ ((by rw [hg];exact (bZ_ HB.out) : w.heap.size≤gb316));have n4_:=n3_;have n5_:=am_ ((by rw [hg];exact nL_ (kL_ BK315.out) : gb315 ≠ gb316));have n6_:=am_ ((by rw [hg];exact nG_ (kL_ BK315.out) : gb316 ≠ gb315));clear BK315;clear HB;have BK315:=n0_;have HB:=n1_;have BK316:=n2_;have GW316:=n3_;have GE316:=n4_;have NB315_316:=n5_;have NB316_315:=n6_;clear n0_ n1_ n2_ n3_ n4_ n5_ n6_;clear hb hbox hg;have hnb24:=NB315_316.out;have hnc24:=NB316_315.out;have hcz25_0 : w23.cell? ⟨gb315,0,none⟩ = some (.int .i8 a0_0):=(kC_ BK315.out 0).trans rfl;have hcz25_1 : w23.cell? ⟨gb315,1,none⟩ = some (.int .i8 a0_1):=(kC_ BK315.out 1).trans rfl;have hcz25_2 : w23.cell? ⟨gb315,2,none⟩ = some (.int .i8 a0_2):=(kC_ BK315.out 2).trans rfl;have hcz25_3 : w23.cell? ⟨gb315,3,none⟩ = some (.int .i8 a0_3):=(kC_ BK315.out 3).trans rfl;have hfz25_0:=kF_ BK315.out 0;have hfz25_1:=kF_ BK315.out 1;have hfz25_2:=kF_ BK315.out 2;have hfz25_3:=kF_ BK315.out 3))
    go_ret
    exact ⟨by first|rfl|(simp [errW_none,errW_some] <;> rfl)|(simp [*,errW_none,errW_some] <;> rfl),by repeat (first|(with_reducible first|exact HB.out|apply bA_|apply bN_|apply bD_|refine bS_ ?_ GE315.out|refine bS_ ?_ GE316.out)|exact HB.out)⟩
  ·
   rw [if_neg c4] at H;have c4b0 : decide (1≤a0_3) = false:=decide_eq_false c4;clear c4;obtain rfl:=Option.some.inj H
   go_enter Try.func69,Try.ntmps69
   go_wp2_with (first|((with_reducible refine gate_dst (N:=2) rfl ?_);refine box_event ?hg (N:=2) ?hd (cs:=#[.int .i8 a0_0,.int .i8 a0_1,.int .i8 a0_2,.int .i8 a0_3]) (t:=49) ?hr ?_;(case hd=>rfl);(case hg=>rfl);(case hr=>first|(go_simp;done)|(go_simp;rfl));intro gb315 hg w26 hbox hb;have n0_:=am_ (bT_ HB.out hb);have n1_:=am_ (hbox);have n2_:=am_ ((by rw [hg];exact (bZ_ HB.out) : w.heap.size≤gb315));have n3_:=n2_;clear HB;have HB:=n0_;have BK315:=n1_;have GW315:=n2_;have GE315:=n3_;clear n0_ n1_ n2_ n3_;clear hb hbox hg)|((with_reducible refine gate_dst (N:=3) rfl ?_);refine box_event ?hg (N:=3) ?hd (cs:=#[.int .i8 a1_0,.int .i8 a1_1,.slice A1_2 l1_2.length c1_2]) (t:=29) ?hr ?_;(case hd=>rfl);(case hg=>rfl);(case hr=>first|(go_simp;done)|(go_simp;rfl));intro gb316 hg w27 hbox hb;have n0_:=am_ (kB_ BK315.out hb);have n1_:=am_ (bT_ HB.out hb);have n2_:=am_ (hbox);have n3_:=am_ ((by rw [hg];exact (bZ_ HB.out) : w.heap.size≤gb316));have n4_:=n3_;have n5_:=am_ ((by rw [hg];exact nL_ (kL_ BK315.out) : gb315 ≠ gb316));have n6_:=am_ ((by rw [hg];exact nG_ (kL_ BK315.out) : gb316 ≠ gb315));clear BK315;clear HB;have BK315:=n0_;have HB:=n1_;have BK316:=n2_;have GW316:=n3_;have GE316:=n4_;have NB315_316:=n5_;have NB316_315:=n6_;clear n0_ n1_ n2_ n3_ n4_ n5_ n6_;clear hb hbox hg;have hnb28:=NB315_316.out;have hnc28:=NB316_315.out;have hcz29_0 : w27.cell? ⟨gb315,0,none⟩ = some (.int .i8 a0_0):=(kC_ BK315.out 0).trans rfl;have hcz29_1 : w27.cell? ⟨gb315,1,none⟩ = some (.int .i8 a0_1):=(kC_ BK315.out 1).trans rfl;have hcz29_2 : w27.cell? ⟨gb315,2,none⟩ = some (.int .i8 a0_2):=(kC_ BK315.out 2).trans rfl;have hcz29_3 : w27.cell? ⟨gb315,3,none⟩ = some (.int .i8 a0_3):=(kC_ BK315.out 3).trans rfl;have hfz29_0:=kF_ BK315.out 0;have hfz29_1:=kF_ BK315.out 1;have hfz29_2:=kF_ BK315.out 2;have hfz29_3:=kF_ BK315.out 3))
   go_ret
   exact ⟨by first|rfl|(simp [errW_none,errW_some] <;> rfl)|(simp [*,errW_none,errW_some] <;> rfl),by repeat (first|(with_reducible first|exact HB.out|apply bA_|apply bN_|apply bD_|refine bS_ ?_ GE315.out|refine bS_ ?_ GE316.out)|exact HB.out)⟩
 ·
  rw [if_neg c3] at H;have c3b0 : decide (1≤a0_2) = false:=decide_eq_false c3;clear c3;obtain rfl:=Option.some.inj H
  go_enter Try.func69,Try.ntmps69
  go_wp2_with (first|((with_reducible refine gate_dst (N:=2) rfl ?_);refine box_event ?hg (N:=2) ?hd (cs:=#[.int .i8 a0_0,.int .i8 a0_1,.int .i8 a0_2,.int .i8 a0_3]) (t:=49) ?hr ?_;(case hd=>rfl);(case hg=>rfl);(case hr=>first|(go_simp;done)|(go_simp;rfl));intro gb315 hg w30 hbox hb;have n0_:=am_ (bT_ HB.out hb);have n1_:=am_ (hbox);have n2_:=am_ ((by rw [hg];exact (bZ_ HB.out) : w.heap.size≤gb315));have n3_:=n2_;clear HB;have HB:=n0_;have BK315:=n1_;have GW315:=n2_;have GE315:=n3_;clear n0_ n1_ n2_ n3_;clear hb hbox hg)|((with_reducible refine gate_dst (N:=3) rfl ?_);refine box_event ?hg (N:=3) ?hd (cs:=#[.int .i8 a1_0,.int .i8 a1_1,.slice A1_2 l1_2.length c1_2]) (t:=29) ?hr ?_;(case hd=>rfl);(case hg=>rfl);(case hr=>first|(go_simp;done)|(go_simp;rfl));intro gb316 hg w31 hbox hb;have n0_:=am_ (kB_ BK315.out hb);have n1_:=am_ (bT_ HB.out hb);have n2_:=am_ (hbox);have n3_:=am_ ((by rw [hg];exact (bZ_ HB.out) : w.heap.size≤gb316));have n4_:=n3_;have n5_:=am_ ((by rw [hg];exact nL_ (kL_ BK315.out) : gb315 ≠ gb316));have n6_:=am_ ((by rw [hg];exact nG_ (kL_ BK315.out) : gb316 ≠ gb315));clear BK315;clear HB;have BK315:=n0_;have HB:=n1_;have BK316:=n2_;have GW316:=n3_;have GE316:=n4_;have NB315_316:=n5_;have NB316_315:=n6_;clear n0_ n1_ n2_ n3_ n4_ n5_ n6_;clear hb hbox hg;have hnb32:=NB315_316.out;have hnc32:=NB316_315.out;have hcz33_0 : w31.cell? ⟨gb315,0,none⟩ = some (.int .i8 a0_0):=(kC_ BK315.out 0).trans rfl;have hcz33_1 : w31.cell? ⟨gb315,1,none⟩ = some (.int .i8 a0_1):=(kC_ BK315.out 1).trans rfl;have hcz33_2 : w31.cell? ⟨gb315,2,none⟩ = some (.int .i8 a0_2):=(kC_ BK315.out 2).trans rfl;have hcz33_3 : w31.cell? ⟨gb315,3,none⟩ = some (.int .i8 a0_3):=(kC_ BK315.out 3).trans rfl;have hfz33_0:=kF_ BK315.out 0;have hfz33_1:=kF_ BK315.out 1;have hfz33_2:=kF_ BK315.out 2;have hfz33_3:=kF_ BK315.out 3))
  go_ret
  exact ⟨by first|rfl|(simp [errW_none,errW_some] <;> rfl)|(simp [*,errW_none,errW_some] <;> rfl),by repeat (first|(with_reducible first|exact HB.out|apply bA_|apply bN_|apply bD_|refine bS_ ?_ GE315.out|refine bS_ ?_ GE316.out)|exact HB.out)⟩
end Go.Proofs.Ytjadgmafgkoanaa.Q
