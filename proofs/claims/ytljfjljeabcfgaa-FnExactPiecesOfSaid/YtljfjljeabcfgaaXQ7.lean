-- Trimmed by a program.
import Derived.Test.YtljfjljeabcfgaaXQ0
import Derived.Test.YtljfjljeabcfgaaXQ5
import Derived.Test.YtljfjljeabcfgaaXQ6
namespace Go.Proofs.Ytljfjljeabcfgaa.Q
open RowKit YtljfjljeabcfgaaW.PrintWords YtljfjljeabcfgaaW.PrintLast YtljfjljeabcfgaaW.PrintMore
attribute [local go_sem] max2_int min2_int max_two min_two max_three min_three max_four min_four
set_option linter.unusedVariables false
set_option linter.unusedSimpArgs false
mutual
def spec_PiecesOf.l0 : Nat → List (List Int) → List Int → Int → Int → Int → List (S50) → Option ((List (List Int)) × Int)
 | 0,_,_,_,_,_,_=>none
 | k + 1,x4,x5,x6,x163000,x163001,x163002=>if x6 < (x163002.length : Int) then (if 0≤x6 then (if x6 < (x5.length : Int) then (if (rd x5 x6) = 0 then (spec_PiecesOf.l1 k x4 (x5.set (x6 : Int).toNat (wrap64 ((x4.length : Int) + 1))) x6 (wrap64 ((x4.length : Int) + 1)) (([x6] : List Int)) 0 x163000 x163001 x163002) else (spec_PiecesOf.l0 k x4 x5 (wrap64 (x6 + 1)) x163000 x163001 x163002)) else (none)) else (none)) else (some (x4,0))
def spec_PiecesOf.l1 : Nat → List (List Int) → List Int → Int → Int → List Int → Int → Int → Int → List (S50) → Option ((List (List Int)) × Int)
 | 0,_,_,_,_,_,_,_,_,_=>none
 | k + 1,x4,x5,x6,x7,x8,x9,x163000,x163001,x163002=>if x9 < (x8.length : Int) then (if 0≤x9 then ((spec_l01Beside.f k [(⟨x163000,x163001,x163002⟩ : S32)] (rd x8 x9)).bind fun t179=>(spec_PiecesOf.l2 k x4 x5 x6 x7 x8 x9 t179 0 x163000 x163001 x163002)) else (none)) else (spec_PiecesOf.l3 k x4 x5 x6 x7 (([] : List Int)) 0 x163000 x163001 x163002)
def spec_PiecesOf.l2 : Nat → List (List Int) → List Int → Int → Int → List Int → Int → List Int → Int → Int → Int → List (S50) → Option ((List (List Int)) × Int)
 | 0,_,_,_,_,_,_,_,_,_,_,_=>none
 | k + 1,x4,x5,x6,x7,x8,x9,x10,x11,x163000,x163001,x163002=>if x11 < (x10.length : Int) then (if 0≤x11 then (if 0≤(rd x10 x11) then (if (rd x10 x11) < (x5.length : Int) then (if (rd x5 (rd x10 x11)) = 0 then (if x8.length < 17592186044416 then (spec_PiecesOf.l2 k x4 (x5.set ((rd x10 x11) : Int).toNat x7) x6 x7 (x8 ++ [rd x10 x11]) x9 x10 (wrap64 (x11 + 1)) x163000 x163001 x163002) else (none)) else (spec_PiecesOf.l2 k x4 x5 x6 x7 x8 x9 x10 (wrap64 (x11 + 1)) x163000 x163001 x163002)) else (none)) else (none)) else (none)) else (spec_PiecesOf.l1 k x4 x5 x6 x7 x8 (wrap64 (x9 + 1)) x163000 x163001 x163002)
def spec_PiecesOf.l3 : Nat → List (List Int) → List Int → Int → Int → List Int → Int → Int → Int → List (S50) → Option ((List (List Int)) × Int)
 | 0,_,_,_,_,_,_,_,_,_=>none
 | k + 1,x4,x5,x6,x7,x12,x13,x163000,x163001,x163002=>if x13 < (x5.length : Int) then (if 0≤x13 then (if (rd x5 x13) = x7 then (if x12.length < 17592186044416 then (spec_PiecesOf.l3 k x4 x5 x6 x7 (x12 ++ [x13]) (wrap64 (x13 + 1)) x163000 x163001 x163002) else (none)) else (spec_PiecesOf.l3 k x4 x5 x6 x7 x12 (wrap64 (x13 + 1)) x163000 x163001 x163002)) else (none)) else (if x4.length < 5864062014805 then (spec_PiecesOf.l0 k (x4 ++ [x12]) x5 (wrap64 (x6 + 1)) x163000 x163001 x163002) else (none))
end
def spec_PiecesOf.f (k : Nat) (a0_0 : Int) (a0_1 : Int) (l0_2 : List (S50)) : Option ((List (List Int)) × Int) := (spec_l01Ok.f k [(⟨a0_0, a0_1, l0_2⟩ : S32)]).bind fun t163 => (if t163 = true then (if 0 ≤ (l0_2.length : Int) then (if ((l0_2.length : Int) : Int).toNat ≤ 35184372088832 then (spec_PiecesOf.l0 k (([] : List (List Int))) (List.replicate ((l0_2.length : Int) : Int).toNat 0) 0 a0_0 a0_1 l0_2) else (none)) else (none)) else (some ((([] : List (List Int))), 1)))
theorem spec_PiecesOf.mono_l : ∀ k, (∀ y0 y1 y2 y3 y4 y5, LeO (spec_PiecesOf.l0 k y0 y1 y2 y3 y4 y5) (spec_PiecesOf.l0 (k + 1) y0 y1 y2 y3 y4 y5)) ∧ (∀ y0 y1 y2 y3 y4 y5 y6 y7 y8, LeO (spec_PiecesOf.l1 k y0 y1 y2 y3 y4 y5 y6 y7 y8) (spec_PiecesOf.l1 (k + 1) y0 y1 y2 y3 y4 y5 y6 y7 y8)) ∧ (∀ y0 y1 y2 y3 y4 y5 y6 y7 y8 y9 y10, LeO (spec_PiecesOf.l2 k y0 y1 y2 y3 y4 y5 y6 y7 y8 y9 y10) (spec_PiecesOf.l2 (k + 1) y0 y1 y2 y3 y4 y5 y6 y7 y8 y9 y10)) ∧ (∀ y0 y1 y2 y3 y4 y5 y6 y7 y8, LeO (spec_PiecesOf.l3 k y0 y1 y2 y3 y4 y5 y6 y7 y8) (spec_PiecesOf.l3 (k + 1) y0 y1 y2 y3 y4 y5 y6 y7 y8))
 | 0=>⟨fun _ _ _ _ _ _ r h=>by simp [spec_PiecesOf.l0] at h,fun _ _ _ _ _ _ _ _ _ r h=>by simp [spec_PiecesOf.l1] at h,fun _ _ _ _ _ _ _ _ _ _ _ r h=>by simp [spec_PiecesOf.l2] at h,fun _ _ _ _ _ _ _ _ _ r h=>by simp [spec_PiecesOf.l3] at h⟩
 | k + 1=>by
  obtain ⟨ih0,ih1,ih2,ih3⟩:=spec_PiecesOf.mono_l k;refine ⟨?_,?_,?_,?_⟩
  ·
   intro y0 y1 y2 y3 y4 y5
   unfold spec_PiecesOf.l0
   repeat' first
   | (with_reducible exact ih0 _ _ _ _ _ _)
   | (with_reducible exact ih1 _ _ _ _ _ _ _ _ _)
   | (with_reducible exact ih2 _ _ _ _ _ _ _ _ _ _ _)
   | (with_reducible exact ih3 _ _ _ _ _ _ _ _ _)
   | (with_reducible exact spec_l01Beside.mono _ _ _)
   | (with_reducible exact spec_l01Ok.mono _ _)
   | (with_reducible exact LeO.refl _)
   | (with_reducible exact LeO.none _)
   | (with_reducible refine LeO.ite ?_ ?_)
   | (with_reducible refine LeO.bind ?_ (fun _=>?_))
   | exact ih0 _ _ _ _ _ _
   | exact ih1 _ _ _ _ _ _ _ _ _
   | exact ih2 _ _ _ _ _ _ _ _ _ _ _
   | exact ih3 _ _ _ _ _ _ _ _ _
   | exact spec_l01Beside.mono _ _ _
   | exact spec_l01Ok.mono _ _
   | exact LeO.none _
   | refine LeO.ite ?_ ?_
   | refine LeO.bind ?_ (fun _=>?_)
  ·
   intro y0 y1 y2 y3 y4 y5 y6 y7 y8
   unfold spec_PiecesOf.l1
   repeat' first
   | (with_reducible exact ih0 _ _ _ _ _ _)
   | (with_reducible exact ih1 _ _ _ _ _ _ _ _ _)
   | (with_reducible exact ih2 _ _ _ _ _ _ _ _ _ _ _)
   | (with_reducible exact ih3 _ _ _ _ _ _ _ _ _)
   | (with_reducible exact spec_l01Beside.mono _ _ _)
   | (with_reducible exact spec_l01Ok.mono _ _)
   | (with_reducible exact LeO.refl _)
   | (with_reducible exact LeO.none _)
   | (with_reducible refine LeO.ite ?_ ?_)
   | (with_reducible refine LeO.bind ?_ (fun _=>?_))
   | exact ih0 _ _ _ _ _ _
   | exact ih1 _ _ _ _ _ _ _ _ _
   | exact ih2 _ _ _ _ _ _ _ _ _ _ _
   | exact ih3 _ _ _ _ _ _ _ _ _
   | exact spec_l01Beside.mono _ _ _
   | exact spec_l01Ok.mono _ _
   | exact LeO.none _
   | refine LeO.ite ?_ ?_
   | refine LeO.bind ?_ (fun _=>?_)
  ·
   intro y0 y1 y2 y3 y4 y5 y6 y7 y8 y9 y10
   unfold spec_PiecesOf.l2
   repeat' first
   | (with_reducible exact ih0 _ _ _ _ _ _)
   | (with_reducible exact ih1 _ _ _ _ _ _ _ _ _)
   | (with_reducible exact ih2 _ _ _ _ _ _ _ _ _ _ _)
   | (with_reducible exact ih3 _ _ _ _ _ _ _ _ _)
   | (with_reducible exact spec_l01Beside.mono _ _ _)
   | (with_reducible exact spec_l01Ok.mono _ _)
   | (with_reducible exact LeO.refl _)
   | (with_reducible exact LeO.none _)
   | (with_reducible refine LeO.ite ?_ ?_)
   | (with_reducible refine LeO.bind ?_ (fun _=>?_))
   | exact ih0 _ _ _ _ _ _
   | exact ih1 _ _ _ _ _ _ _ _ _
   | exact ih2 _ _ _ _ _ _ _ _ _ _ _
   | exact ih3 _ _ _ _ _ _ _ _ _
   | exact spec_l01Beside.mono _ _ _
   | exact spec_l01Ok.mono _ _
   | exact LeO.none _
   | refine LeO.ite ?_ ?_
   | refine LeO.bind ?_ (fun _=>?_)
  ·
   intro y0 y1 y2 y3 y4 y5 y6 y7 y8
   unfold spec_PiecesOf.l3
   repeat' first
   | (with_reducible exact ih0 _ _ _ _ _ _)
   | (with_reducible exact ih1 _ _ _ _ _ _ _ _ _)
   | (with_reducible exact ih2 _ _ _ _ _ _ _ _ _ _ _)
   | (with_reducible exact ih3 _ _ _ _ _ _ _ _ _)
   | (with_reducible exact spec_l01Beside.mono _ _ _)
   | (with_reducible exact spec_l01Ok.mono _ _)
   | (with_reducible exact LeO.refl _)
   | (with_reducible exact LeO.none _)
   | (with_reducible refine LeO.ite ?_ ?_)
   | (with_reducible refine LeO.bind ?_ (fun _=>?_))
   | exact ih0 _ _ _ _ _ _
   | exact ih1 _ _ _ _ _ _ _ _ _
   | exact ih2 _ _ _ _ _ _ _ _ _ _ _
   | exact ih3 _ _ _ _ _ _ _ _ _
   | exact spec_l01Beside.mono _ _ _
   | exact spec_l01Ok.mono _ _
   | exact LeO.none _
   | refine LeO.ite ?_ ?_
   | refine LeO.bind ?_ (fun _=>?_)
theorem spec_PiecesOf.mono : ∀ a0 a1 a2 k, LeO (spec_PiecesOf.f k a0 a1 a2) (spec_PiecesOf.f (k + 1) a0 a1 a2) := by
 intro a0 a1 a2 k;obtain ⟨ih0,ih1,ih2,ih3⟩:=spec_PiecesOf.mono_l k
 unfold spec_PiecesOf.f
 repeat' first
   | (with_reducible exact ih0 _ _ _ _ _ _)
   | (with_reducible exact ih1 _ _ _ _ _ _ _ _ _)
   | (with_reducible exact ih2 _ _ _ _ _ _ _ _ _ _ _)
   | (with_reducible exact ih3 _ _ _ _ _ _ _ _ _)
   | (with_reducible exact spec_l01Beside.mono _ _ _)
   | (with_reducible exact spec_l01Ok.mono _ _)
   | (with_reducible exact LeO.refl _)
   | (with_reducible exact LeO.none _)
   | (with_reducible refine LeO.ite ?_ ?_)
   | (with_reducible refine LeO.bind ?_ (fun _=>?_))
   | exact ih0 _ _ _ _ _ _
   | exact ih1 _ _ _ _ _ _ _ _ _
   | exact ih2 _ _ _ _ _ _ _ _ _ _ _
   | exact ih3 _ _ _ _ _ _ _ _ _
   | exact spec_l01Beside.mono _ _ _
   | exact spec_l01Ok.mono _ _
   | exact LeO.none _
   | refine LeO.ite ?_ ?_
   | refine LeO.bind ?_ (fun _=>?_)
set_option maxHeartbeats 8000000 in
set_option maxRecDepth 100000 in
theorem spec_PiecesOf.calls (k : Nat) (a0_0 : Int) (a0_1 : Int) (A0_2 : Option Addr) (c0_2 : Nat) (l0_2 : List (S50)) (r1 : List (List Int)) (r2 : Int) (w : World) (hr0_2 : Kd.C k50 w A0_2 l0_2.length l0_2) (hc0_2 : l0_2.length ≤ c0_2) (h : spec_PiecesOf.f k a0_0 a0_1 l0_2 = some (r1, r2)) :
  Calls Try.prog 5 #[.agg #[.int .i8 a0_0,.int .i8 a0_1,.slice A0_2 l0_2.length c0_2]] w fun e w'=>∃ v0_ : Value,e = .returned (.tuple #[v0_,.int .i64 r2]) ∧ Kd.S (Kd.slice 2 (Kd.int .i64)) 43 w' w.heap.size (fun _=>True) v0_ r1 ∧ Below w.heap.size w w':=by
 have hu32:=Try.underlying32;have HR0_2:=am_ hr0_2;have HC0_2:=am_ hc0_2;clear hr0_2 hc0_2;have HB:=am_ (Below.refl w.heap.size w);have H : ((spec_l01Ok.f k [(⟨a0_0,a0_1,l0_2⟩ : S32)]).bind fun t163=>(if t163 = true then (if 0≤(l0_2.length : Int) then (if ((l0_2.length : Int) : Int).toNat≤35184372088832 then (spec_PiecesOf.l0 k (([] : List (List Int))) (List.replicate ((l0_2.length : Int) : Int).toNat 0) 0 a0_0 a0_1 l0_2) else (none)) else (none)) else (some ((([] : List (List Int))),1)))) = some (r1,r2):=h;clear h;replace H:=Option.bind_eq_some_iff.mp H;obtain ⟨t163,A20,H⟩:=H;replace H : (if t163 = true then (if 0≤(l0_2.length : Int) then (if ((l0_2.length : Int) : Int).toNat≤35184372088832 then (spec_PiecesOf.l0 k (([] : List (List Int))) (List.replicate ((l0_2.length : Int) : Int).toNat 0) 0 a0_0 a0_1 l0_2) else (none)) else (none)) else (some ((([] : List (List Int))),1))) = some (r1,r2):=H;have A2:=am_ A20;clear A20
 by_cases c3 : t163 = true
 ·
  subst c3;have H1 : (if 0≤(l0_2.length : Int) then (if ((l0_2.length : Int) : Int).toNat≤35184372088832 then (spec_PiecesOf.l0 k (([] : List (List Int))) (List.replicate ((l0_2.length : Int) : Int).toNat 0) 0 a0_0 a0_1 l0_2) else (none)) else (none)) = some (r1,r2):=by rw [if_pos rfl] at H;exact H
  clear H;have H:=H1;clear H1;obtain ⟨y167,hy167⟩ : ∃ y_ : List (List Int),y_ = (([] : List (List Int))):=⟨_,rfl⟩
  replace H : (if 0≤(l0_2.length : Int) then (if ((l0_2.length : Int) : Int).toNat≤35184372088832 then (spec_PiecesOf.l0 k y167 (List.replicate ((l0_2.length : Int) : Int).toNat 0) 0 a0_0 a0_1 l0_2) else (none)) else (none)) = some (r1,r2):=by first|(rw [hy167];with_reducible exact H)|(have H2_:=(Option.bind_some _ _).symm.trans H;rw [hy167];with_reducible exact H2_)|(have H2_:=(Option.bind_some _ _).symm.trans H;with_reducible exact H2_)|with_reducible exact H|(rw [hy167];exact H)|exact H
  have Ny167:=am_ hy167;clear hy167
  by_cases c4 : 0≤(l0_2.length : Int)
  ·
   rw [if_pos c4] at H;have c4b0:=eq_true c4;have c4b1 : decide (0≤(l0_2.length : Int)) = true:=decide_eq_true c4;clear c4
   by_cases c5 : ((l0_2.length : Int) : Int).toNat≤35184372088832
   ·
    rw [if_pos c5] at H;have c5b0:=eq_true c5;have c5b1 : decide (((l0_2.length : Int) : Int).toNat≤35184372088832) = true:=decide_eq_true c5;clear c5;obtain ⟨y170,hy170⟩ : ∃ y_ : List Int,y_ = (List.replicate ((l0_2.length : Int) : Int).toNat 0):=⟨_,rfl⟩
    replace H : (spec_PiecesOf.l0 k y167 y170 0 a0_0 a0_1 l0_2) = some (r1,r2):=by first|(rw [hy170];with_reducible exact H)|(have H2_:=(Option.bind_some _ _).symm.trans H;rw [hy170];with_reducible exact H2_)|(have H2_:=(Option.bind_some _ _).symm.trans H;with_reducible exact H2_)|with_reducible exact H|(rw [hy170];exact H)|exact H
    have Ny170:=am_ hy170;clear hy170;have H':=am_ H;clear H
    go_enter Try.func5,Try.ntmps5
    go_wp2_with (first|((with_reducible refine gate_dst (N:=1) rfl ?_);refine box_event ?hg (N:=1) ?hd (cs:=#[.int .i8 a0_0,.int .i8 a0_1,.slice A0_2 l0_2.length c0_2]) (t:=32) ?hr ?_;(case hd=>rfl);(case hg=>rfl);(case hr=>first|(go_simp;done)|(go_simp;rfl));intro gb162 hg w6 hbox hb;have n0_:=am_ (bT_ (by repeat (first|(with_reducible first|exact HB.out|apply bA_|apply bN_|apply bD_)|exact HB.out)) hb);have n1_:=am_ (hbox);have n2_:=am_ ((by rw [hg];exact (bZ_ (by repeat (first|(with_reducible first|exact HB.out|apply bA_|apply bN_|apply bD_)|exact HB.out))) : w.heap.size≤gb162));have n3_:=n2_;clear HB;have HB:=n0_;have BK162:=n1_;have GW162:=n2_;have GE162:=n3_;clear n0_ n1_ n2_ n3_;clear hb hbox hg)|((with_reducible refine gate_callee (f:=14) rfl ?_);refine goesL_ (some 14) rfl rfl Try.func14 (by kernel_rfl) rfl #[.pointer (some ⟨gb162,0,none⟩)] rfl (by (try simp only [List.map_toArray,List.map_cons,List.map_nil]);first|done|rfl|(simp only [List.length_drop,List.length_take];rfl)) ?_;(with_reducible refine (spec_l01Ok.calls k _ 1 [(⟨a0_0,a0_1,l0_2⟩ : S32)] true _ ?side1 ?side2 A2.out).mono ?_);(case side1=>exact Kd.C_one_ (by (with_reducible repeat (first|apply kN_|apply kD_|apply kA_));exact BK162.out) (k32_mk _ _ (by exact HC0_2.out) (by repeat (first|exact (cB_ HR0_2.out HB.out)|(with_reducible refine Kd.C_alloc ?_ _)|(with_reducible refine Kd.C_drewN ?_ _)|(with_reducible refine Kd.C_drew ?_)))));(case side2=>exact Nat.le_refl _);rintro e w7 ⟨rfl,hb⟩;refine ⟨_,rfl,?_⟩;have n0_:=am_ (kB_ (g:=gb162) (o:=.cells #[.int .i8 a0_0,.int .i8 a0_1,.slice A0_2 l0_2.length c0_2] 32 (0,0)) (by (with_reducible repeat (first|apply kN_|apply kD_|apply kA_));exact BK162.out) hb);have n1_:=am_ (bT_ (by repeat (first|(with_reducible first|exact HB.out|apply bA_|apply bN_|apply bD_|refine bS_ ?_ GE162.out)|exact HB.out)) hb);clear BK162;clear HB;have BK162:=n0_;have HB:=n1_;clear n0_ n1_;(try clear hb hb2 hk hi))|((with_reducible refine gate_dst (N:=17) rfl ?_);refine Kd.S_lit (Kd.slice 2 (Kd.int .i64)) _ 43 ?hg (N:=17) ?hd (xs:=([] : List (List Int))) (inner:=[]) (ok:=fun _=>True) (okp:=fun _=>True) ?hr ?hp (fun _ hk=>hk) trivial (Below.refl _ _) (Nat.le_refl _) (by simp) ?_;(case hd=>rfl);(case hg=>rfl);(case hr=>first|(go_simp;done)|(go_simp;rfl));(case hp=>exact (Reps.none _ _));intro v168 w8 ho9 hb hg_ hnew_;clear hg_ hnew_;(first|rw [← Ny167.out] at ho9|(simp only [Int.reduceToNat] at ho9;rw [← Ny167.out] at ho9));have n0_:=am_ (Kd.S_lower ho9 (bZ_ (by repeat (first|(with_reducible first|exact HB.out|apply bA_|apply bN_|apply bD_|refine bS_ ?_ GE162.out)|exact HB.out))));have n1_:=am_ (kB_ (g:=gb162) (o:=.cells #[.int .i8 a0_0,.int .i8 a0_1,.slice A0_2 l0_2.length c0_2] 32 (0,0)) (by (with_reducible repeat (first|apply kN_|apply kD_|apply kA_));exact BK162.out) hb);have n2_:=am_ (bT_ (by repeat (first|(with_reducible first|exact HB.out|apply bA_|apply bN_|apply bD_|refine bS_ ?_ GE162.out)|exact HB.out)) hb);clear BK162;clear HB;have HO169:=n0_;have BK162:=n1_;have HB:=n2_;clear n0_ n1_ n2_;clear hb ho9;have hcz10_0 : w8.cell? ⟨gb162,0,none⟩ = some (.int .i8 a0_0):=(kC_ BK162.out 0).trans rfl;have hcz10_1 : w8.cell? ⟨gb162,1,none⟩ = some (.int .i8 a0_1):=(kC_ BK162.out 1).trans rfl;have hcz10_2 : w8.cell? ⟨gb162,2,none⟩ = some (.slice A0_2 l0_2.length c0_2):=(kC_ BK162.out 2).trans rfl;have hfz10_0:=kF_ BK162.out 0;have hfz10_1:=kF_ BK162.out 1;have hfz10_2:=kF_ BK162.out 2)|((with_reducible refine gate_dst (N:=21) rfl ?_);refine Kd.R_make (Kd.int .i64) _ 3 rfl (N:=21) rfl 42 _ _ rfl (l0_2.length : Int) rfl rfl Try.underlying42 (.int .i64 0) 8 info3 rfl (by decide) (by omega) 0 (ok:=fun _=>True) (okp:=fun _=>True) rfl (fun _ hk=>hk) trivial (od_ (by first|(with_reducible assumption)|assumption)) (Nat.le_trans (Nat.mul_le_mul_right _ (od_ (by first|(with_reducible assumption)|assumption) : (l0_2.length : Int).toNat≤35184372088832)) (by omega)) (Below.refl _ _) (Nat.le_refl _) ?_;intro v171 w11 ho12 hb hg_ hnew_;clear hg_ hnew_;(first|rw [← Ny170.out] at ho12|(simp only [Int.reduceToNat] at ho12;rw [← Ny170.out] at ho12));have n0_:=am_ (Kd.S_below (by (with_reducible repeat (first|apply Kd.S_alloc|apply Kd.S_drewN|apply Kd.S_drew));exact HO169.out) hb);have n1_:=am_ (Kd.R_lower ho12 (bZ_ (by repeat (first|(with_reducible first|exact HB.out|apply bA_|apply bN_|apply bD_|refine bS_ ?_ GE162.out)|exact HB.out))));have n2_:=am_ (kB_ (g:=gb162) (o:=.cells #[.int .i8 a0_0,.int .i8 a0_1,.slice A0_2 l0_2.length c0_2] 32 (0,0)) (by (with_reducible repeat (first|apply kN_|apply kD_|apply kA_));exact BK162.out) hb);have n3_:=am_ (bT_ (by repeat (first|(with_reducible first|exact HB.out|apply bA_|apply bN_|apply bD_|refine bS_ ?_ GE162.out)|exact HB.out)) hb);clear HO169;clear BK162;clear HB;have HO169:=n0_;have HO172:=n1_;have BK162:=n2_;have HB:=n3_;clear n0_ n1_ n2_ n3_;clear hb ho12))
    go_loopg [4,6] k (fun kq v4 v6 w'=>∃ (x4_1 : List (List Int)) (x5_1 : List Int) (x6_1 : Int),v6 = .int .i64 x6_1 ∧ Aside0 (spec_PiecesOf.l0 kq x4_1 x5_1 x6_1 a0_0 a0_1 l0_2 = some (r1,r2)) ∧ Aside0 (kq≤k) ∧ Aside0 (Kd.S (Kd.slice 2 (Kd.int .i64)) 43 w' w.heap.size (fun _=>True) v4 x4_1) ∧ Aside0 (Kd.R (Kd.int .i64) 3 w' w.heap.size (fun _=>True) v171 x5_1) ∧ Aside0 (w'.heap[gb162]? = some (.cells #[.int .i8 a0_0,.int .i8 a0_1,(.slice A0_2 l0_2.length c0_2)] 32 (0,0))) ∧ Aside0 (Below w.heap.size w w'))
    case atStart=>exact ⟨(y167),(y170),(0),(by first|rfl|(simp;done)|(simp [*];done)),H',⟨Nat.le_refl _⟩,⟨by (with_reducible repeat (first|apply Kd.S_alloc|apply Kd.S_drewN|apply Kd.S_drew));exact HO169.out⟩,⟨by (with_reducible repeat (first|apply Kd.R_alloc|apply Kd.R_drewN|apply Kd.R_drew));exact HO172.out⟩,⟨by (with_reducible repeat (first|apply kN_|apply kD_|apply kA_));exact BK162.out⟩,⟨by repeat (first|(with_reducible first|exact HB.out|apply bA_|apply bN_|apply bD_|refine bS_ ?_ GE162.out)|exact HB.out)⟩⟩
    case round =>
     clear H';(try clear c1 p2 c3 c4 c4b0 c4b1 c5 c5b0 c5b1 hcz10_0 hcz10_1 hcz10_2 hfz10_0 hfz10_1 hfz10_2);obtain ⟨x4_1,x5_1,x6_1,rfl,HA,HK1,HO_4,HO_5,BK162,HB⟩:=hrel
     cases gk with
     | zero=>exact absurd HA.out (by simp [spec_PiecesOf.l0])
     | succ k1 =>
      have H:=HA.out;clear HA;simp only [spec_PiecesOf.l0] at H
      by_cases c13 : x6_1 < (l0_2.length : Int)
      ·
       rw [if_pos c13] at H;have c13b0 : decide (x6_1 < (l0_2.length : Int)) = true:=decide_eq_true c13;clear c13
       by_cases c14 : 0≤x6_1
       ·
        rw [if_pos c14] at H;have c14b0 : decide (0≤x6_1) = true:=decide_eq_true c14;clear c14
        by_cases c15 : x6_1 < (x5_1.length : Int)
        ·
         rw [if_pos c15] at H;have c15b0 : decide (x6_1 < (x5_1.length : Int)) = true:=decide_eq_true c15;clear c15
         by_cases c16 : (rd x5_1 x6_1) = 0
         ·
          rw [if_pos c16] at H;have c16b0 : ((rd x5_1 x6_1) == 0) = true:=beq_iff_eq.mpr c16;have c16b1 : ((rd x5_1 x6_1) != 0) = false:=bne_eq_false_iff_eq.mpr c16;clear c16;obtain ⟨y174,hy174⟩ : ∃ y_ : List Int,y_ = (x5_1.set (x6_1 : Int).toNat (wrap64 ((x4_1.length : Int) + 1))):=⟨_,rfl⟩
          replace H : (spec_PiecesOf.l1 k1 x4_1 y174 x6_1 (wrap64 ((x4_1.length : Int) + 1)) (([x6_1] : List Int)) 0 a0_0 a0_1 l0_2) = some (r1,r2):=by first|(rw [hy174];with_reducible exact H)|(have H2_:=(Option.bind_some _ _).symm.trans H;rw [hy174];with_reducible exact H2_)|(have H2_:=(Option.bind_some _ _).symm.trans H;with_reducible exact H2_)|with_reducible exact H|(rw [hy174];exact H)|exact H
          have Ny174:=am_ hy174;clear hy174;obtain ⟨y175,hy175⟩ : ∃ y_ : List Int,y_ = (([x6_1] : List Int)):=⟨_,rfl⟩
          replace H : (spec_PiecesOf.l1 k1 x4_1 y174 x6_1 (wrap64 ((x4_1.length : Int) + 1)) y175 0 a0_0 a0_1 l0_2) = some (r1,r2):=by first|(rw [hy175];with_reducible exact H)|(have H2_:=(Option.bind_some _ _).symm.trans H;rw [hy175];with_reducible exact H2_)|(have H2_:=(Option.bind_some _ _).symm.trans H;with_reducible exact H2_)|with_reducible exact H|(rw [hy175];exact H)|exact H
          have Ny175:=am_ hy175;clear hy175;have H':=am_ H;clear H;have hcz18_0 : wr.cell? ⟨gb162,0,none⟩ = some (.int .i8 a0_0):=(kC_ BK162.out 0).trans rfl;have hcz18_1 : wr.cell? ⟨gb162,1,none⟩ = some (.int .i8 a0_1):=(kC_ BK162.out 1).trans rfl;have hcz18_2 : wr.cell? ⟨gb162,2,none⟩ = some (.slice A0_2 l0_2.length c0_2):=(kC_ BK162.out 2).trans rfl;have hfz18_0:=kF_ BK162.out 0;have hfz18_1:=kF_ BK162.out 1;have hfz18_2:=kF_ BK162.out 2;obtain ⟨Ao19,co19,eo19⟩:=Kd.R_slice HO_5.out;subst eo19;have p173 : 0≤(x6_1 : Int):=od_ (by first|(with_reducible assumption)|assumption);have q173 : x6_1 < (x5_1.length : Int):=od_ (by first|(with_reducible assumption)|assumption);obtain ⟨ad173,e173,hx173_0⟩:=Kd.at_int (Kd.R_reads' HO_5.out).2.2 x6_1 p173 q173
          cases e173
          replace p173:=eq_true p173;replace q173:=eq_true q173;obtain ⟨Ao20,co20,eo20⟩:=Kd.S_slice HO_4.out;subst eo20;have p17 : 0≤(x6_1 : Int):=od_ (by first|(with_reducible assumption)|assumption);have q17 : (x6_1 : Int) < ((x5_1.length : Int) : Int):=od_ (by first|(with_reducible assumption)|assumption);obtain ⟨go17,co17,eo17,gb17,gl17,cl17,HG17⟩:=Kd.R_form HO_5.out (by omega)
          (first|cases eo17|(injection eo17 with ea_ en_ ec_;(first|subst ea_|(injection ea_ with ea_;subst ea_));subst ec_;clear en_))
          have GB17:=am_ gb17;have GG17:=am_ HG17;clear gb17 gl17 HG17
          (first|simp only [add_plain] at hx173_0|skip)
          obtain ⟨hx17_0,hf17_0⟩:=Kd.R_celln 0 HO_5.out (x6_1 : Int) p17 q17;replace p17:=eq_true p17;replace q17:=eq_true q17;have HP21:=Kd.R_putg HO_5.out (x6_1 : Int) (wrap64 ((x4_1.length : Int) + 1))
          go_wp2_with (first|((with_reducible refine gate_store (t:=3) (p:=40) rfl ?_);refine store_event (t:=3) (p:=40) (v:=?vo_w22) (w1:=(wr.setCell ⟨go17,(x6_1 : Int).toNat,none⟩ (.int .i64 (wrap64 ((x4_1.length : Int) + 1))))) ?hg ?ho ?hn ?hr ?_;(case ho=>rfl);(case hg=>rfl);(case hn=>rfl);(case hr=>first|(go_simp;done)|(go_simp;rfl));intro w22 hw;have hg : wr.grownBy w22 (some go17):=(by rw [hw];exact HP21.2);have hp_ : Kd.R (Kd.int .i64) 3 w22 w.heap.size (fun _=>True) (.slice (some ⟨go17,0,none⟩) x5_1.length co19) y174:=(by rw [hw,Ny174.out];exact HP21.1);clear HP21;have n0_:=am_ (Kd.S_over' (v:=(.slice (some ⟨go17,0,none⟩) x5_1.length co19)) (by (with_reducible repeat (first|apply Kd.S_alloc|apply Kd.S_drewN|apply Kd.S_drew));exact HO_4.out) (Kd.R_typed HO_5.out) (by decide) hg);have n1_:=am_ (hp_);have n2_:=am_ (blk_grown (g:=gb162) (o:=.cells #[.int .i8 a0_0,.int .i8 a0_1,.slice A0_2 l0_2.length c0_2] 32 (0,0)) (by (with_reducible repeat (first|apply kN_|apply kD_|apply kA_));exact BK162.out) hg (Kd.R_ne HO_5.out BK162.out (by decide)));have n3_:=am_ ((by rw [hw];exact bS_ (HB.out) GB17.out : Below w.heap.size w w22));clear HO_4;clear HO_5;clear BK162;clear HB;have HO_4:=n0_;have HO_5:=n1_;have BK162:=n2_;have HB:=n3_;clear n0_ n1_ n2_ n3_;clear hg hw hp_)|((with_reducible refine gate_dst (N:=42) rfl ?_);refine Kd.R_lit (Kd.int .i64) _ 2 ?hg (N:=42) ?hd (xs:=([x6_1] : List Int)) (inner:=[.int .i64 x6_1]) (ok:=fun _=>True) (okp:=fun _=>True) ?hr ?hp (fun _ hk=>hk) trivial (Below.refl _ _) (Nat.le_refl _) (by simp) ?_;(case hd=>rfl);(case hg=>rfl);(case hr=>first|(go_simp;done)|(go_simp;rfl));(case hp=>exact (Reps.one (show Kd.M (Kd.int .i64) _ _ _ x6_1 [.int .i64 x6_1] from rfl) (Reps.none _ _)));intro v176 w23 ho24 hb hg_ hnew_;clear hg_ hnew_;(first|rw [← Ny175.out] at ho24|(simp only [Int.reduceToNat] at ho24;rw [← Ny175.out] at ho24));have n0_:=am_ (Kd.S_elder' (by (with_reducible repeat (first|apply Kd.S_alloc|apply Kd.S_drewN|apply Kd.S_drew));exact HO_4.out) (Kd.R_base ho24) hb);have n1_:=am_ (Kd.R_below (by (with_reducible repeat (first|apply Kd.R_alloc|apply Kd.R_drewN|apply Kd.R_drew));exact HO_5.out) hb);have n2_:=am_ (Kd.R_lower ho24 (bZ_ (by repeat (first|(with_reducible first|exact HB.out|apply bA_|apply bN_|apply bD_|refine bS_ ?_ GE162.out)|exact HB.out))));have n3_:=am_ (kB_ (g:=gb162) (o:=.cells #[.int .i8 a0_0,.int .i8 a0_1,.slice A0_2 l0_2.length c0_2] 32 (0,0)) (by (with_reducible repeat (first|apply kN_|apply kD_|apply kA_));exact BK162.out) hb);have n4_:=am_ (bT_ (by repeat (first|(with_reducible first|exact HB.out|apply bA_|apply bN_|apply bD_|refine bS_ ?_ GE162.out)|exact HB.out)) hb);clear HO_4;clear HO_5;clear BK162;clear HB;have HO_4:=n0_;have HO_5:=n1_;have HO177:=n2_;have BK162:=n3_;have HB:=n4_;clear n0_ n1_ n2_ n3_ n4_;clear hb ho24))
          go_loopg [8,9] k1 (fun kq v8 v9 w'=>∃ (x5_2 : List Int) (x8_2 : List Int) (x9_2 : Int),v9 = .int .i64 x9_2 ∧ Aside0 (spec_PiecesOf.l1 kq x4_1 x5_2 x6_1 (wrap64 ((x4_1.length : Int) + 1)) x8_2 x9_2 a0_0 a0_1 l0_2 = some (r1,r2)) ∧ Aside0 (kq≤k1) ∧ Aside0 (Kd.S (Kd.slice 2 (Kd.int .i64)) 43 w' w.heap.size (fun k_=>some k_ ≠ (v8 : Value).ownBlock) (.slice Ao20 x4_1.length co20) x4_1) ∧ Aside0 (Kd.R (Kd.int .i64) 3 w' w.heap.size (fun _=>True) (.slice (some ⟨go17,0,none⟩) x5_1.length co19) x5_2) ∧ Aside0 (Kd.R (Kd.int .i64) 2 w' w.heap.size (fun _=>True) v8 x8_2) ∧ Aside0 (w'.heap[gb162]? = some (.cells #[.int .i8 a0_0,.int .i8 a0_1,(.slice A0_2 l0_2.length c0_2)] 32 (0,0))) ∧ Aside0 (Below w.heap.size w w'))
          case atStart=>exact ⟨(y174),(y175),(0),(by first|rfl|(simp;done)|(simp [*];done)),H',⟨Nat.le_refl _⟩,⟨by (with_reducible repeat (first|apply Kd.S_alloc|apply Kd.S_drewN|apply Kd.S_drew));exact Kd.S_mono HO_4.out (fun _ hk=>hk.2)⟩,⟨by (with_reducible repeat (first|apply Kd.R_alloc|apply Kd.R_drewN|apply Kd.R_drew));exact HO_5.out⟩,⟨by (with_reducible repeat (first|apply Kd.R_alloc|apply Kd.R_drewN|apply Kd.R_drew));exact HO177.out⟩,⟨by (with_reducible repeat (first|apply kN_|apply kD_|apply kA_));exact BK162.out⟩,⟨by repeat (first|(with_reducible first|exact HB.out|apply bA_|apply bN_|apply bD_|refine bS_ ?_ GE162.out)|exact HB.out)⟩⟩
          case round =>
           clear H';(try clear c1 p1 q1 hx1 hf1 p2 c3 c4 c4b0 c4b1 c5 c5b0 c5b1 p6 c13 c13b0 c14 c14b0 c15 c15b0 c16 c16b0 c16b1 p17 q17 hx17 hf17 hcz10_0 hcz10_1 hcz10_2 hcz18_0 hcz18_1 hcz18_2 hfz10_0 hfz10_1 hfz10_2 hfz18_0 hfz18_1 hfz18_2 hx173_0 hx17_0 p17 p173 p2 q17 q173);obtain ⟨x5_2,x8_2,x9_2,rfl,HA,HK2,HO_4,HO_5,HO_8,BK162,HB⟩:=hrel;have hl5_2:=(Kd.R_reads' HO_5.out).1;rw [hl5_2] at HO_5;(try simp only [hl5_2]);(try simp only [hl5_2] at BK162);(try simp only [hl5_2] at HO_4);(try simp only [hl5_2] at HO_8)
           cases gk with
           | zero=>exact absurd HA.out (by simp [spec_PiecesOf.l1])
           | succ k2 =>
            have H:=HA.out;clear HA;simp only [spec_PiecesOf.l1] at H
            by_cases c25 : x9_2 < (x8_2.length : Int)
            ·
             rw [if_pos c25] at H;have c25b0 : decide (x9_2 < (x8_2.length : Int)) = true:=decide_eq_true c25;clear c25
             by_cases c26 : 0≤x9_2
             ·
              rw [if_pos c26] at H;have c26b0 : decide (0≤x9_2) = true:=decide_eq_true c26;clear c26;replace H:=Option.bind_eq_some_iff.mp H;obtain ⟨t179,A270,H⟩:=H;replace H : (spec_PiecesOf.l2 k2 x4_1 x5_2 x6_1 (wrap64 ((x4_1.length : Int) + 1)) x8_2 x9_2 t179 0 a0_0 a0_1 l0_2) = some (r1,r2):=H;have A27:=am_ A270;clear A270;have H':=am_ H;clear H;obtain ⟨Ao28,co28,eo28⟩:=Kd.R_slice HO_8.out;subst eo28;have p178 : 0≤(x9_2 : Int):=od_ (by first|(with_reducible assumption)|assumption);have q178 : x9_2 < (x8_2.length : Int):=od_ (by first|(with_reducible assumption)|assumption);obtain ⟨ad178,e178,hx178_0⟩:=Kd.at_int (Kd.R_reads' HO_8.out).2.2 x9_2 p178 q178
              cases e178
              replace p178:=eq_true p178;replace q178:=eq_true q178
              go_wp2_with (first|((with_reducible refine gate_callee (f:=15) rfl ?_);refine goesL_ (some 53) rfl rfl Try.func15 (by kernel_rfl) rfl #[.pointer (some ⟨gb162,0,none⟩),.int .i64 (rd x8_2 x9_2)] rfl (by (try simp only [List.map_toArray,List.map_cons,List.map_nil]);first|done|rfl|(simp only [List.length_drop,List.length_take];rfl)) ?_;(with_reducible refine (spec_l01Beside.calls k2 _ 1 [(⟨a0_0,a0_1,l0_2⟩ : S32)] (rd x8_2 x9_2) t179 _ ?side1 ?side2 A27.out).mono ?_);(case side1=>exact Kd.C_one_ (by (with_reducible repeat (first|apply kN_|apply kD_|apply kA_));exact BK162.out) (k32_mk _ _ (by exact HC0_2.out) (by repeat (first|exact (cB_ HR0_2.out HB.out)|(with_reducible refine Kd.C_alloc ?_ _)|(with_reducible refine Kd.C_drewN ?_ _)|(with_reducible refine Kd.C_drew ?_)))));(case side2=>exact Nat.le_refl _);rintro e w29 ⟨v180,rfl,ho0,hb⟩;refine ⟨_,rfl,?_⟩;have n0_:=am_ (Kd.S_elder' (by (with_reducible repeat (first|apply Kd.S_alloc|apply Kd.S_drewN|apply Kd.S_drew));exact HO_4.out) (Kd.R_base ho0) hb);have n1_:=am_ (Kd.R_below (by (with_reducible repeat (first|apply Kd.R_alloc|apply Kd.R_drewN|apply Kd.R_drew));exact HO_5.out) hb);have n2_:=am_ (Kd.R_elder' (by (with_reducible repeat (first|apply Kd.R_alloc|apply Kd.R_drewN|apply Kd.R_drew));exact HO_8.out) (Kd.R_base ho0) hb);have n3_:=am_ (Kd.R_lower (Kd.R_new' ho0 (Kd.R_lt (by (with_reducible repeat (first|apply Kd.R_alloc|apply Kd.R_drewN|apply Kd.R_drew));exact HO_8.out))) (bZ_ (by repeat (first|(with_reducible first|exact HB.out|apply bA_|apply bN_|apply bD_|refine bS_ ?_ GE162.out)|exact HB.out))));have n4_:=am_ (kB_ (g:=gb162) (o:=.cells #[.int .i8 a0_0,.int .i8 a0_1,.slice A0_2 l0_2.length c0_2] 32 (0,0)) (by (with_reducible repeat (first|apply kN_|apply kD_|apply kA_));exact BK162.out) hb);have n5_:=am_ (bT_ (by repeat (first|(with_reducible first|exact HB.out|apply bA_|apply bN_|apply bD_|refine bS_ ?_ GE162.out)|exact HB.out)) hb);clear HO_4;clear HO_5;clear HO_8;clear BK162;clear HB;have HO_4:=n0_;have HO_5:=n1_;have HO_8:=n2_;have HO181:=n3_;have BK162:=n4_;have HB:=n5_;clear n0_ n1_ n2_ n3_ n4_ n5_;(try clear hb hb2 hk hi ho0)))
              go_loopg [8,11] k2 (fun kq v8 v11 w'=>∃ (x5_3 : List Int) (x8_3 : List Int) (x11_3 : Int),v11 = .int .i64 x11_3 ∧ Aside0 (spec_PiecesOf.l2 kq x4_1 x5_3 x6_1 (wrap64 ((x4_1.length : Int) + 1)) x8_3 x9_2 t179 x11_3 a0_0 a0_1 l0_2 = some (r1,r2)) ∧ Aside0 (kq≤k2) ∧ Aside0 (Kd.S (Kd.slice 2 (Kd.int .i64)) 43 w' w.heap.size (fun k_=>some k_ ≠ (v8 : Value).ownBlock ∧ some k_ ≠ (v180 : Value).ownBlock) (.slice Ao20 x4_1.length co20) x4_1) ∧ Aside0 (Kd.R (Kd.int .i64) 3 w' w.heap.size (fun _=>True) (.slice (some ⟨go17,0,none⟩) x5_2.length co19) x5_3) ∧ Aside0 (Kd.R (Kd.int .i64) 2 w' w.heap.size (fun k_=>some k_ ≠ (v180 : Value).ownBlock) v8 x8_3) ∧ Aside0 (Kd.R (Kd.int .i64) 2 w' w.heap.size (fun k_=>some k_ ≠ (v8 : Value).ownBlock) v180 t179) ∧ Aside0 (w'.heap[gb162]? = some (.cells #[.int .i8 a0_0,.int .i8 a0_1,(.slice A0_2 l0_2.length c0_2)] 32 (0,0))) ∧ Aside0 (Below w.heap.size w w'))
              case atStart=>exact ⟨(x5_2),(x8_2),(0),(by first|rfl|(simp;done)|(simp [*];done)),H',⟨Nat.le_refl _⟩,⟨by (try simp only [hl5_2]);(with_reducible repeat (first|apply Kd.S_alloc|apply Kd.S_drewN|apply Kd.S_drew));exact HO_4.out⟩,⟨by (try simp only [hl5_2]);(with_reducible repeat (first|apply Kd.R_alloc|apply Kd.R_drewN|apply Kd.R_drew));exact HO_5.out⟩,⟨by (try simp only [hl5_2]);(with_reducible repeat (first|apply Kd.R_alloc|apply Kd.R_drewN|apply Kd.R_drew));exact rM_ HO_8.out (fun _ hk=>hk.2)⟩,⟨by (try simp only [hl5_2]);(with_reducible repeat (first|apply Kd.R_alloc|apply Kd.R_drewN|apply Kd.R_drew));exact rM_ HO181.out (fun _ hk=>hk.2)⟩,⟨by (try simp only [hl5_2]);(with_reducible repeat (first|apply kN_|apply kD_|apply kA_));exact BK162.out⟩,⟨by repeat (first|(with_reducible first|exact HB.out|apply bA_|apply bN_|apply bD_|refine bS_ ?_ GE162.out)|exact HB.out)⟩⟩
              case round =>
               clear H';(try clear c1 p1 q1 hx1 hf1 c2 p2 c3 c4 c4b0 c4b1 c5 c5b0 c5b1 p6 c13 c13b0 c14 c14b0 c15 c15b0 c16 c16b0 c16b1 p17 q17 hx17 hf17 c25 c25b0 c26 c26b0 hcz10_0 hcz10_1 hcz10_2 hcz18_0 hcz18_1 hcz18_2 hfz10_0 hfz10_1 hfz10_2 hfz18_0 hfz18_1 hfz18_2 hx173_0 hx178_0 hx17_0 p1 p17 p173 p178 p2 p6 q1 q17 q173 q178);obtain ⟨x5_3,x8_3,x11_3,rfl,HA,HK3,HO_4,HO_5,HO_8,HO_10,BK162,HB⟩:=hrel;have hl5_3:=(Kd.R_reads' HO_5.out).1;rw [hl5_3] at HO_5;(try simp only [hl5_3]);(try simp only [hl5_3] at BK162);(try simp only [hl5_3] at HO_4);(try simp only [hl5_3] at HO_8);(try simp only [hl5_3] at HO_10)
               cases gk with
               | zero=>exact absurd HA.out (by simp [spec_PiecesOf.l2])
               | succ k3 =>
                have H:=HA.out;clear HA;simp only [spec_PiecesOf.l2] at H
                by_cases c30 : x11_3 < (t179.length : Int)
                ·
                 rw [if_pos c30] at H;have c30b0 : decide (x11_3 < (t179.length : Int)) = true:=decide_eq_true c30;clear c30
                 by_cases c31 : 0≤x11_3
                 ·
                  rw [if_pos c31] at H;have c31b0 : decide (0≤x11_3) = true:=decide_eq_true c31;clear c31
                  by_cases c32 : 0≤(rd t179 x11_3)
                  ·
                   rw [if_pos c32] at H;have c32b0 : decide (0≤(rd t179 x11_3)) = true:=decide_eq_true c32;clear c32
                   by_cases c33 : (rd t179 x11_3) < (x5_3.length : Int)
                   ·
                    rw [if_pos c33] at H;have c33b0 : decide ((rd t179 x11_3) < (x5_3.length : Int)) = true:=decide_eq_true c33;clear c33
                    by_cases c34 : (rd x5_3 (rd t179 x11_3)) = 0
                    ·
                     rw [if_pos c34] at H;have c34b0 : ((rd x5_3 (rd t179 x11_3)) == 0) = true:=beq_iff_eq.mpr c34;have c34b1 : ((rd x5_3 (rd t179 x11_3)) != 0) = false:=bne_eq_false_iff_eq.mpr c34;clear c34;obtain ⟨y185,hy185⟩ : ∃ y_ : List Int,y_ = (x5_3.set ((rd t179 x11_3) : Int).toNat (wrap64 ((x4_1.length : Int) + 1))):=⟨_,rfl⟩
                     replace H : (if x8_3.length < 17592186044416 then (spec_PiecesOf.l2 k3 x4_1 y185 x6_1 (wrap64 ((x4_1.length : Int) + 1)) (x8_3 ++ [rd t179 x11_3]) x9_2 t179 (wrap64 (x11_3 + 1)) a0_0 a0_1 l0_2) else (none)) = some (r1,r2):=by first|(rw [hy185];with_reducible exact H)|(have H2_:=(Option.bind_some _ _).symm.trans H;rw [hy185];with_reducible exact H2_)|(have H2_:=(Option.bind_some _ _).symm.trans H;with_reducible exact H2_)|with_reducible exact H|(rw [hy185];exact H)|exact H
                     have Ny185:=am_ hy185;clear hy185
                     by_cases c36 : x8_3.length < 17592186044416
                     ·
                      rw [if_pos c36] at H;have LMc36:=am_ c36;clear c36;obtain ⟨y187,hy187⟩ : ∃ y_ : List Int,y_ = (x8_3 ++ [rd t179 x11_3]):=⟨_,rfl⟩
                      replace H : (spec_PiecesOf.l2 k3 x4_1 y185 x6_1 (wrap64 ((x4_1.length : Int) + 1)) y187 x9_2 t179 (wrap64 (x11_3 + 1)) a0_0 a0_1 l0_2) = some (r1,r2):=by first|(rw [hy187];with_reducible exact H)|(have H2_:=(Option.bind_some _ _).symm.trans H;rw [hy187];with_reducible exact H2_)|(have H2_:=(Option.bind_some _ _).symm.trans H;with_reducible exact H2_)|with_reducible exact H|(rw [hy187];exact H)|exact H
                      have Ny187:=am_ hy187;clear hy187;have H':=am_ H;clear H;obtain ⟨Ao37,co37,eo37⟩:=Kd.R_slice HO_10.out;subst eo37;have p182 : 0≤(x11_3 : Int):=od_ (by first|(with_reducible assumption)|assumption);have q182 : x11_3 < (t179.length : Int):=od_ (by first|(with_reducible assumption)|assumption);obtain ⟨ad182,e182,hx182_0⟩:=Kd.at_int (Kd.R_reads' HO_10.out).2.2 x11_3 p182 q182
                      cases e182
                      replace p182:=eq_true p182;replace q182:=eq_true q182;have p183 : 0≤((rd t179 x11_3) : Int):=od_ (by first|(with_reducible assumption)|assumption);have q183 : (rd t179 x11_3) < (x5_3.length : Int):=od_ (by first|(with_reducible assumption)|assumption);obtain ⟨ad183,e183,hx183_0⟩:=Kd.at_int (Kd.R_reads' HO_5.out).2.2 (rd t179 x11_3) p183 q183;obtain rfl : (⟨go17,0,none⟩ : Addr) = ad183:=(by injection e183)
                      (first|simp only [add_plain] at hx183_0|simp only [add_at] at hx183_0|simp only [Addr.add,Nat.zero_add] at hx183_0|skip)
                      replace p183:=eq_true p183;replace q183:=eq_true q183;have p184 : 0≤(x11_3 : Int):=od_ (by first|(with_reducible assumption)|assumption);have q184 : x11_3 < (t179.length : Int):=od_ (by first|(with_reducible assumption)|assumption);obtain ⟨ad184,e184,hx184_0⟩:=Kd.at_int (Kd.R_reads' HO_10.out).2.2 x11_3 p184 q184;obtain rfl : ad182 = ad184:=(by injection e184)
                      replace p184:=eq_true p184;replace q184:=eq_true q184;have p35 : 0≤((rd t179 x11_3) : Int):=od_ (by first|(with_reducible assumption)|assumption);have q35 : ((rd t179 x11_3) : Int) < ((x5_3.length : Int) : Int):=od_ (by first|(with_reducible assumption)|assumption);obtain ⟨hx35_0,hf35_0⟩:=Kd.R_celln 0 HO_5.out ((rd t179 x11_3) : Int) p35 q35;replace p35:=eq_true p35;replace q35:=eq_true q35;have HP38:=Kd.R_putg HO_5.out ((rd t179 x11_3) : Int) (wrap64 ((x4_1.length : Int) + 1))
                      go_wp2_with (first|((with_reducible refine gate_store (t:=3) (p:=74) rfl ?_);refine store_event (t:=3) (p:=74) (v:=?vo_w39) (w1:=(wr.setCell ⟨go17,((rd t179 x11_3) : Int).toNat,none⟩ (.int .i64 (wrap64 ((x4_1.length : Int) + 1))))) ?hg ?ho ?hn ?hr ?_;(case ho=>rfl);(case hg=>rfl);(case hn=>rfl);(case hr=>first|(go_simp;done)|(go_simp;rfl));intro w39 hw;have hg : wr.grownBy w39 (some go17):=(by rw [hw];exact HP38.2);have hp_ : Kd.R (Kd.int .i64) 3 w39 w.heap.size (fun _=>True) (.slice (some ⟨go17,0,none⟩) x5_3.length co19) y185:=(by rw [hw,Ny185.out];exact HP38.1);clear HP38;have n0_:=am_ (Kd.S_over' (v:=(.slice (some ⟨go17,0,none⟩) x5_3.length co19)) (by (with_reducible repeat (first|apply Kd.S_alloc|apply Kd.S_drewN|apply Kd.S_drew));exact HO_4.out) (Kd.R_typed HO_5.out) (by decide) hg);have n1_:=am_ (hp_);have n2_:=am_ (Kd.R_over' (v:=(.slice (some ⟨go17,0,none⟩) x5_3.length co19)) (by (with_reducible repeat (first|apply Kd.R_alloc|apply Kd.R_drewN|apply Kd.R_drew));exact HO_8.out) (Kd.R_typed HO_5.out) (by decide) hg);have n3_:=am_ (Kd.R_over' (v:=(.slice (some ⟨go17,0,none⟩) x5_3.length co19)) (by (with_reducible repeat (first|apply Kd.R_alloc|apply Kd.R_drewN|apply Kd.R_drew));exact HO_10.out) (Kd.R_typed HO_5.out) (by decide) hg);have n4_:=am_ (blk_grown (g:=gb162) (o:=.cells #[.int .i8 a0_0,.int .i8 a0_1,.slice A0_2 l0_2.length c0_2] 32 (0,0)) (by (with_reducible repeat (first|apply kN_|apply kD_|apply kA_));exact BK162.out) hg (Kd.R_ne HO_5.out BK162.out (by decide)));have n5_:=am_ ((by rw [hw];exact bS_ (HB.out) GB17.out : Below w.heap.size w w39));clear HO_4;clear HO_5;clear HO_8;clear HO_10;clear BK162;clear HB;have HO_4:=n0_;have HO_5:=n1_;have HO_8:=n2_;have HO_10:=n3_;have BK162:=n4_;have HB:=n5_;clear n0_ n1_ n2_ n3_ n4_ n5_;clear hg hw hp_;have p186 : 0≤(x11_3 : Int):=od_ (by first|(with_reducible assumption)|assumption);have q186 : x11_3 < (t179.length : Int):=od_ (by first|(with_reducible assumption)|assumption);obtain ⟨ad186,e186,hx186_0⟩:=Kd.at_int (Kd.R_reads' HO_10.out).2.2 x11_3 p186 q186;obtain rfl : ad182 = ad186:=(by injection e186);replace p186:=eq_true p186;replace q186:=eq_true q186)|((with_reducible refine gate_builtin (b:=.append) (xs:=#[.tmp 75,.tmp 80]) rfl ?_);at_builtin;refine Kd.R_append (Kd.int .i64) (w0:=w) w.heap.size rfl (.tmp 75) (.tmp 80) 43 2 (.int .i64 0) 8 rfl Try.underlying43 info2 rfl (by decide) (by omega) u8 x8_3 (rd t179 x11_3) [.int .i64 (rd t179 x11_3)] (fun k_=>some k_ ≠ (.slice (some ad182) t179.length co37 : Value).ownBlock) (fun _=>False) rfl rfl ?aP (fun _ hk=>hk.elim) ?aF ?aO ?aB ?aS ?aL ?_;(case aP=>exact rfl);(case aB=>exact (by repeat (first|(with_reducible first|exact HB.out|apply bA_|apply bN_|apply bD_|refine bS_ ?_ GE162.out)|exact HB.out)));(case aF=>exact (fun k_ hk=>Kd.fresh' (Kd.R_lt (by (with_reducible repeat (first|apply Kd.R_alloc|apply Kd.R_drewN|apply Kd.R_drew));exact HO_10.out)) k_ hk));(case aO=>exact (by (with_reducible repeat (first|apply Kd.R_alloc|apply Kd.R_drewN|apply Kd.R_drew));exact HO_8.out));(case aS=>exact (bZ_ (by repeat (first|(with_reducible first|exact HB.out|apply bA_|apply bN_|apply bD_|refine bS_ ?_ GE162.out)|exact HB.out))));(case aL=>have:=LMc36.out;omega);intro v188 w40 ho hb hg hat;rw [← Ny187.out] at ho;have n0_:=am_ (Kd.S_after (ok:=(fun k_=>some k_ ≠ (.slice (some ad182) t179.length co37 : Value).ownBlock)) (by (with_reducible repeat (first|apply Kd.S_alloc|apply Kd.S_drewN|apply Kd.S_drew));exact Kd.S_mono HO_4.out (fun _ hk=>⟨hk.2,hk.1⟩)) hg hat);have n1_:=am_ (Kd.R_over' (by (with_reducible repeat (first|apply Kd.R_alloc|apply Kd.R_drewN|apply Kd.R_drew));exact HO_5.out) (Kd.R_typed (by (with_reducible repeat (first|apply Kd.R_alloc|apply Kd.R_drewN|apply Kd.R_drew));exact HO_8.out)) (by decide) hg);have n2_:=am_ (Kd.R_after (ok:=(fun _=>True)) (by (with_reducible repeat (first|apply Kd.R_alloc|apply Kd.R_drewN|apply Kd.R_drew));exact rM_ HO_10.out (fun _ hk=>⟨trivial,hk⟩)) hg hat);have n3_:=am_ (blk_grown (g:=gb162) (o:=.cells #[.int .i8 a0_0,.int .i8 a0_1,.slice A0_2 l0_2.length c0_2] 32 (0,0)) (by (with_reducible repeat (first|apply kN_|apply kD_|apply kA_));exact BK162.out) hg (Kd.R_ne HO_8.out BK162.out (by decide)));have n4_:=am_ (hb);have n5_:=am_ (ho);clear HO_4;clear HO_5;clear HO_10;clear BK162;clear HB;clear HO_8;have HO_4:=n0_;have HO_5:=n1_;have HO_10:=n2_;have BK162:=n3_;have HB:=n4_;have HO189:=n5_;clear n0_ n1_ n2_ n3_ n4_ n5_;clear ho hb hg hat))
                      (try simp only [← hl5_3])
                      go_roundg k3
                      case measure=>have:=HK1.out;have:=HK2.out;have:=HK3.out;omega
                      case rel=>exact ⟨(y185),(y187),(wrap64 (x11_3 + 1)),(by first|rfl|(simp;done)|(simp [*];done)),H',⟨by have:=HK1.out;have:=HK2.out;have:=HK3.out;omega⟩,⟨by (try simp only [hl5_2]);(try simp only [hl5_3]);(with_reducible repeat (first|apply Kd.S_alloc|apply Kd.S_drewN|apply Kd.S_drew));exact Kd.S_mono HO_4.out (fun _ hk=>⟨hk.2,hk.1⟩)⟩,⟨by (try simp only [hl5_2]);(try simp only [hl5_3]);(with_reducible repeat (first|apply Kd.R_alloc|apply Kd.R_drewN|apply Kd.R_drew));exact HO_5.out⟩,⟨by (try simp only [hl5_2]);(try simp only [hl5_3]);(with_reducible repeat (first|apply Kd.R_alloc|apply Kd.R_drewN|apply Kd.R_drew));exact HO189.out⟩,⟨by (try simp only [hl5_2]);(try simp only [hl5_3]);(with_reducible repeat (first|apply Kd.R_alloc|apply Kd.R_drewN|apply Kd.R_drew));exact rM_ HO_10.out (fun _ hk=>hk.2)⟩,⟨by (try simp only [hl5_2]);(try simp only [hl5_3]);(with_reducible repeat (first|apply kN_|apply kD_|apply kA_));exact BK162.out⟩,⟨by repeat (first|(with_reducible first|exact HB.out|apply bA_|apply bN_|apply bD_|refine bS_ ?_ GE162.out)|exact HB.out)⟩⟩
                     · rw [if_neg c36] at H;exact absurd H (by simp)
                    ·
                     rw [if_neg c34] at H;have c34b0 : ((rd x5_3 (rd t179 x11_3)) == 0) = false:=beq_eq_false_iff_ne.mpr c34;have c34b1 : ((rd x5_3 (rd t179 x11_3)) != 0) = true:=bne_iff_ne.mpr c34;have H':=am_ H;clear H;obtain ⟨Ao41,co41,eo41⟩:=Kd.R_slice HO_10.out;subst eo41;have p182 : 0≤(x11_3 : Int):=od_ (by first|(with_reducible assumption)|assumption);have q182 : x11_3 < (t179.length : Int):=od_ (by first|(with_reducible assumption)|assumption);obtain ⟨ad182,e182,hx182_0⟩:=Kd.at_int (Kd.R_reads' HO_10.out).2.2 x11_3 p182 q182
                     cases e182
                     replace p182:=eq_true p182;replace q182:=eq_true q182;have p183 : 0≤((rd t179 x11_3) : Int):=od_ (by first|(with_reducible assumption)|assumption);have q183 : (rd t179 x11_3) < (x5_3.length : Int):=od_ (by first|(with_reducible assumption)|assumption);obtain ⟨ad183,e183,hx183_0⟩:=Kd.at_int (Kd.R_reads' HO_5.out).2.2 (rd t179 x11_3) p183 q183;obtain rfl : (⟨go17,0,none⟩ : Addr) = ad183:=(by injection e183)
                     (first|simp only [add_plain] at hx183_0|simp only [add_at] at hx183_0|simp only [Addr.add,Nat.zero_add] at hx183_0|skip)
                     replace p183:=eq_true p183;replace q183:=eq_true q183
                     go_wp2
                     (try simp only [← hl5_3])
                     go_roundg k3
                     case measure=>have:=HK1.out;have:=HK2.out;have:=HK3.out;omega
                     case rel=>exact ⟨(x5_3),(x8_3),(wrap64 (x11_3 + 1)),(by first|rfl|(simp;done)|(simp [*];done)),H',⟨by have:=HK1.out;have:=HK2.out;have:=HK3.out;omega⟩,⟨by (try simp only [hl5_2]);(try simp only [hl5_3]);(with_reducible repeat (first|apply Kd.S_alloc|apply Kd.S_drewN|apply Kd.S_drew));exact HO_4.out⟩,⟨by (try simp only [hl5_2]);(try simp only [hl5_3]);(with_reducible repeat (first|apply Kd.R_alloc|apply Kd.R_drewN|apply Kd.R_drew));exact HO_5.out⟩,⟨by (try simp only [hl5_2]);(try simp only [hl5_3]);(with_reducible repeat (first|apply Kd.R_alloc|apply Kd.R_drewN|apply Kd.R_drew));exact HO_8.out⟩,⟨by (try simp only [hl5_2]);(try simp only [hl5_3]);(with_reducible repeat (first|apply Kd.R_alloc|apply Kd.R_drewN|apply Kd.R_drew));exact HO_10.out⟩,⟨by (try simp only [hl5_2]);(try simp only [hl5_3]);(with_reducible repeat (first|apply kN_|apply kD_|apply kA_));exact BK162.out⟩,⟨by repeat (first|(with_reducible first|exact HB.out|apply bA_|apply bN_|apply bD_|refine bS_ ?_ GE162.out)|exact HB.out)⟩⟩
                   · rw [if_neg c33] at H;exact absurd H (by simp)
                  · rw [if_neg c32] at H;exact absurd H (by simp)
                 · rw [if_neg c31] at H;exact absurd H (by simp)
                ·
                 rw [if_neg c30] at H;have c30b0 : decide (x11_3 < (t179.length : Int)) = false:=decide_eq_false c30;clear c30;have H':=am_ H;clear H;obtain ⟨Ao42,co42,eo42⟩:=Kd.R_slice HO_10.out;subst eo42
                 go_wp2
                 (try simp only [← hl5_2,← hl5_3])
                 go_roundg k3
                 case measure=>have:=HK1.out;have:=HK2.out;have:=HK3.out;omega
                 case rel=>exact ⟨(x5_3),(x8_3),(wrap64 (x9_2 + 1)),(by first|rfl|(simp;done)|(simp [*];done)),H',⟨by have:=HK1.out;have:=HK2.out;have:=HK3.out;omega⟩,⟨by (try simp only [hl5_2]);(try simp only [hl5_3]);(with_reducible repeat (first|apply Kd.S_alloc|apply Kd.S_drewN|apply Kd.S_drew));exact Kd.S_mono HO_4.out (fun _ hk=>hk.1)⟩,⟨by (try simp only [hl5_2]);(try simp only [hl5_3]);(with_reducible repeat (first|apply Kd.R_alloc|apply Kd.R_drewN|apply Kd.R_drew));exact HO_5.out⟩,⟨by (try simp only [hl5_2]);(try simp only [hl5_3]);(with_reducible repeat (first|apply Kd.R_alloc|apply Kd.R_drewN|apply Kd.R_drew));exact rM_ HO_8.out (fun _ hk=>trivial)⟩,⟨by (try simp only [hl5_2]);(try simp only [hl5_3]);(with_reducible repeat (first|apply kN_|apply kD_|apply kA_));exact BK162.out⟩,⟨by repeat (first|(with_reducible first|exact HB.out|apply bA_|apply bN_|apply bD_|refine bS_ ?_ GE162.out)|exact HB.out)⟩⟩
             · rw [if_neg c26] at H;exact absurd H (by simp)
            ·
             rw [if_neg c25] at H;have c25b0 : decide (x9_2 < (x8_2.length : Int)) = false:=decide_eq_false c25;clear c25;obtain ⟨y190,hy190⟩ : ∃ y_ : List Int,y_ = (([] : List Int)):=⟨_,rfl⟩
             replace H : (spec_PiecesOf.l3 k2 x4_1 x5_2 x6_1 (wrap64 ((x4_1.length : Int) + 1)) y190 0 a0_0 a0_1 l0_2) = some (r1,r2):=by first|(rw [hy190];with_reducible exact H)|(have H2_:=(Option.bind_some _ _).symm.trans H;rw [hy190];with_reducible exact H2_)|(have H2_:=(Option.bind_some _ _).symm.trans H;with_reducible exact H2_)|with_reducible exact H|(rw [hy190];exact H)|exact H
             have Ny190:=am_ hy190;clear hy190;have H':=am_ H;clear H;obtain ⟨Ao43,co43,eo43⟩:=Kd.R_slice HO_8.out;subst eo43
             go_wp2_with (first|((with_reducible refine gate_dst (N:=82) rfl ?_);refine Kd.R_lit (Kd.int .i64) _ 2 ?hg (N:=82) ?hd (xs:=([] : List Int)) (inner:=[]) (ok:=fun _=>True) (okp:=fun _=>True) ?hr ?hp (fun _ hk=>hk) trivial (Below.refl _ _) (Nat.le_refl _) (by simp) ?_;(case hd=>rfl);(case hg=>rfl);(case hr=>first|(go_simp;done)|(go_simp;rfl));(case hp=>exact (Reps.none _ _));intro v191 w44 ho45 hb hg_ hnew_;clear hg_ hnew_;(first|rw [← Ny190.out] at ho45|(simp only [Int.reduceToNat] at ho45;rw [← Ny190.out] at ho45));have n0_:=am_ (Kd.S_elder' (by (with_reducible repeat (first|apply Kd.S_alloc|apply Kd.S_drewN|apply Kd.S_drew));exact HO_4.out) (Kd.R_base ho45) hb);have n1_:=am_ (Kd.R_below (by (with_reducible repeat (first|apply Kd.R_alloc|apply Kd.R_drewN|apply Kd.R_drew));exact HO_5.out) hb);have n2_:=am_ (Kd.R_elder' (by (with_reducible repeat (first|apply Kd.R_alloc|apply Kd.R_drewN|apply Kd.R_drew));exact HO_8.out) (Kd.R_base ho45) hb);have n3_:=am_ (Kd.R_lower (Kd.R_new' ho45 (Kd.R_lt (by (with_reducible repeat (first|apply Kd.R_alloc|apply Kd.R_drewN|apply Kd.R_drew));exact HO_8.out))) (bZ_ (by repeat (first|(with_reducible first|exact HB.out|apply bA_|apply bN_|apply bD_|refine bS_ ?_ GE162.out)|exact HB.out))));have n4_:=am_ (kB_ (g:=gb162) (o:=.cells #[.int .i8 a0_0,.int .i8 a0_1,.slice A0_2 l0_2.length c0_2] 32 (0,0)) (by (with_reducible repeat (first|apply kN_|apply kD_|apply kA_));exact BK162.out) hb);have n5_:=am_ (bT_ (by repeat (first|(with_reducible first|exact HB.out|apply bA_|apply bN_|apply bD_|refine bS_ ?_ GE162.out)|exact HB.out)) hb);clear HO_4;clear HO_5;clear HO_8;clear BK162;clear HB;have HO_4:=n0_;have HO_5:=n1_;have HO_8:=n2_;have HO192:=n3_;have BK162:=n4_;have HB:=n5_;clear n0_ n1_ n2_ n3_ n4_ n5_;clear hb ho45))
             go_loopg [12,13] k2 (fun kq v12 v13 w'=>∃ (x12_3 : List Int) (x13_3 : Int),v13 = .int .i64 x13_3 ∧ Aside0 (spec_PiecesOf.l3 kq x4_1 x5_2 x6_1 (wrap64 ((x4_1.length : Int) + 1)) x12_3 x13_3 a0_0 a0_1 l0_2 = some (r1,r2)) ∧ Aside0 (kq≤k2) ∧ Aside0 (Kd.S (Kd.slice 2 (Kd.int .i64)) 43 w' w.heap.size (fun k_=>some k_ ≠ (v12 : Value).ownBlock) (.slice Ao20 x4_1.length co20) x4_1) ∧ Aside0 (Kd.R (Kd.int .i64) 3 w' w.heap.size (fun _=>True) (.slice (some ⟨go17,0,none⟩) x5_2.length co19) x5_2) ∧ Aside0 (Kd.R (Kd.int .i64) 2 w' w.heap.size (fun _=>True) v12 x12_3) ∧ Aside0 (w'.heap[gb162]? = some (.cells #[.int .i8 a0_0,.int .i8 a0_1,(.slice A0_2 l0_2.length c0_2)] 32 (0,0))) ∧ Aside0 (Below w.heap.size w w'))
             case atStart=>exact ⟨(y190),(0),(by first|rfl|(simp;done)|(simp [*];done)),H',⟨Nat.le_refl _⟩,⟨by (try simp only [hl5_2]);(with_reducible repeat (first|apply Kd.S_alloc|apply Kd.S_drewN|apply Kd.S_drew));exact Kd.S_mono HO_4.out (fun _ hk=>hk.2)⟩,⟨by (try simp only [hl5_2]);(with_reducible repeat (first|apply Kd.R_alloc|apply Kd.R_drewN|apply Kd.R_drew));exact HO_5.out⟩,⟨by (try simp only [hl5_2]);(with_reducible repeat (first|apply Kd.R_alloc|apply Kd.R_drewN|apply Kd.R_drew));exact rM_ HO192.out (fun _ hk=>trivial)⟩,⟨by (try simp only [hl5_2]);(with_reducible repeat (first|apply kN_|apply kD_|apply kA_));exact BK162.out⟩,⟨by repeat (first|(with_reducible first|exact HB.out|apply bA_|apply bN_|apply bD_|refine bS_ ?_ GE162.out)|exact HB.out)⟩⟩
             case round =>
              clear H';(try clear c1 p1 q1 hx1 hf1 c2 p2 c3 p3 q3 hx3 hf3 c4 c4b0 c4b1 c5 c5b0 c5b1 p6 c13 c13b0 c14 c14b0 c15 c15b0 c16 c16b0 c16b1 p17 q17 hx17 hf17 p18 q18 hx18 c25 c25b0 c26 c26b0 c30 c30b0 c31 c31b0 c32 c32b0 c33 c33b0 c34 c34b0 c34b1 p35 q35 hx35 hf35 c36 hcz10_0 hcz10_1 hcz10_2 hcz18_0 hcz18_1 hcz18_2 hfz10_0 hfz10_1 hfz10_2 hfz18_0 hfz18_1 hfz18_2 hx173_0 hx178_0 hx17_0 hx182_0 hx183_0 hx184_0 hx186_0 hx35_0 p1 p17 p173 p178 p182 p183 p184 p186 p2 p35 p6 q1 q17 q173 q178 q182 q183 q184 q186 q35);obtain ⟨x12_3,x13_3,rfl,HA,HK3,HO_4,HO_5,HO_12,BK162,HB⟩:=hrel
              cases gk with
              | zero=>exact absurd HA.out (by simp [spec_PiecesOf.l3])
              | succ k3 =>
               have H:=HA.out;clear HA;simp only [spec_PiecesOf.l3] at H
               by_cases c46 : x13_3 < (x5_2.length : Int)
               ·
                rw [if_pos c46] at H;have c46b0 : decide (x13_3 < (x5_2.length : Int)) = true:=decide_eq_true c46;clear c46
                by_cases c47 : 0≤x13_3
                ·
                 rw [if_pos c47] at H;have c47b0 : decide (0≤x13_3) = true:=decide_eq_true c47;clear c47
                 by_cases c48 : (rd x5_2 x13_3) = (wrap64 ((x4_1.length : Int) + 1))
                 ·
                  rw [if_pos c48] at H;have c48b0 : ((rd x5_2 x13_3) == (wrap64 ((x4_1.length : Int) + 1))) = true:=beq_iff_eq.mpr c48;have c48b1 : ((rd x5_2 x13_3) != (wrap64 ((x4_1.length : Int) + 1))) = false:=bne_eq_false_iff_eq.mpr c48;clear c48
                  by_cases c49 : x12_3.length < 17592186044416
                  ·
                   rw [if_pos c49] at H;have LMc49:=am_ c49;clear c49;obtain ⟨y194,hy194⟩ : ∃ y_ : List Int,y_ = (x12_3 ++ [x13_3]):=⟨_,rfl⟩
                   replace H : (spec_PiecesOf.l3 k3 x4_1 x5_2 x6_1 (wrap64 ((x4_1.length : Int) + 1)) y194 (wrap64 (x13_3 + 1)) a0_0 a0_1 l0_2) = some (r1,r2):=by first|(rw [hy194];with_reducible exact H)|(have H2_:=(Option.bind_some _ _).symm.trans H;rw [hy194];with_reducible exact H2_)|(have H2_:=(Option.bind_some _ _).symm.trans H;with_reducible exact H2_)|with_reducible exact H|(rw [hy194];exact H)|exact H
                   have Ny194:=am_ hy194;clear hy194;have H':=am_ H;clear H;have p193 : 0≤(x13_3 : Int):=od_ (by first|(with_reducible assumption)|assumption);have q193 : x13_3 < (x5_2.length : Int):=od_ (by first|(with_reducible assumption)|assumption);obtain ⟨ad193,e193,hx193_0⟩:=Kd.at_int (Kd.R_reads' HO_5.out).2.2 x13_3 p193 q193;obtain rfl : (⟨go17,0,none⟩ : Addr) = ad193:=(by injection e193)
                   (first|simp only [add_plain] at hx193_0|simp only [add_at] at hx193_0|simp only [Addr.add,Nat.zero_add] at hx193_0|skip)
                   replace p193:=eq_true p193;replace q193:=eq_true q193
                   go_wp2_with (first|((with_reducible refine gate_builtin (b:=.append) (xs:=#[.tmp 95,.tmp 97]) rfl ?_);at_builtin;refine Kd.R_append (Kd.int .i64) (w0:=w) w.heap.size rfl (.tmp 95) (.tmp 97) 43 2 (.int .i64 0) 8 rfl Try.underlying43 info2 rfl (by decide) (by omega) u12 x12_3 x13_3 [.int .i64 x13_3] (fun _=>True) (fun _=>False) rfl rfl ?aP (fun _ hk=>hk.elim) ?aF ?aO ?aB ?aS ?aL ?_;(case aP=>exact rfl);(case aB=>exact (by repeat (first|(with_reducible first|exact HB.out|apply bA_|apply bN_|apply bD_|refine bS_ ?_ GE162.out)|exact HB.out)));(case aF=>exact (fun _ _=>trivial));(case aO=>exact (by (with_reducible repeat (first|apply Kd.R_alloc|apply Kd.R_drewN|apply Kd.R_drew));exact HO_12.out));(case aS=>exact (bZ_ (by repeat (first|(with_reducible first|exact HB.out|apply bA_|apply bN_|apply bD_|refine bS_ ?_ GE162.out)|exact HB.out))));(case aL=>have:=LMc49.out;omega);intro v195 w50 ho hb hg hat;rw [← Ny194.out] at ho;have n0_:=am_ (Kd.S_after (ok:=(fun _=>True)) (by (with_reducible repeat (first|apply Kd.S_alloc|apply Kd.S_drewN|apply Kd.S_drew));exact Kd.S_mono HO_4.out (fun _ hk=>⟨trivial,hk⟩)) hg hat);have n1_:=am_ (Kd.R_over' (by (with_reducible repeat (first|apply Kd.R_alloc|apply Kd.R_drewN|apply Kd.R_drew));exact HO_5.out) (Kd.R_typed (by (with_reducible repeat (first|apply Kd.R_alloc|apply Kd.R_drewN|apply Kd.R_drew));exact HO_12.out)) (by decide) hg);have n2_:=am_ (blk_grown (g:=gb162) (o:=.cells #[.int .i8 a0_0,.int .i8 a0_1,.slice A0_2 l0_2.length c0_2] 32 (0,0)) (by (with_reducible repeat (first|apply kN_|apply kD_|apply kA_));exact BK162.out) hg (Kd.R_ne HO_12.out BK162.out (by decide)));have n3_:=am_ (hb);have n4_:=am_ (ho);clear HO_4;clear HO_5;clear BK162;clear HB;clear HO_12;have HO_4:=n0_;have HO_5:=n1_;have BK162:=n2_;have HB:=n3_;have HO196:=n4_;clear n0_ n1_ n2_ n3_ n4_;clear ho hb hg hat))
                   go_roundg k3
                   case measure=>have:=HK1.out;have:=HK2.out;have:=HK3.out;omega
                   case rel=>exact ⟨(y194),(wrap64 (x13_3 + 1)),(by first|rfl|(simp;done)|(simp [*];done)),H',⟨by have:=HK1.out;have:=HK2.out;have:=HK3.out;omega⟩,⟨by (try simp only [hl5_2]);(with_reducible repeat (first|apply Kd.S_alloc|apply Kd.S_drewN|apply Kd.S_drew));exact Kd.S_mono HO_4.out (fun _ hk=>hk.2)⟩,⟨by (try simp only [hl5_2]);(with_reducible repeat (first|apply Kd.R_alloc|apply Kd.R_drewN|apply Kd.R_drew));exact HO_5.out⟩,⟨by (try simp only [hl5_2]);(with_reducible repeat (first|apply Kd.R_alloc|apply Kd.R_drewN|apply Kd.R_drew));exact HO196.out⟩,⟨by (try simp only [hl5_2]);(with_reducible repeat (first|apply kN_|apply kD_|apply kA_));exact BK162.out⟩,⟨by repeat (first|(with_reducible first|exact HB.out|apply bA_|apply bN_|apply bD_|refine bS_ ?_ GE162.out)|exact HB.out)⟩⟩
                  · rw [if_neg c49] at H;exact absurd H (by simp)
                 ·
                  rw [if_neg c48] at H;have c48b0 : ((rd x5_2 x13_3) == (wrap64 ((x4_1.length : Int) + 1))) = false:=beq_eq_false_iff_ne.mpr c48;have c48b1 : ((rd x5_2 x13_3) != (wrap64 ((x4_1.length : Int) + 1))) = true:=bne_iff_ne.mpr c48;have H':=am_ H;clear H;have p193 : 0≤(x13_3 : Int):=od_ (by first|(with_reducible assumption)|assumption);have q193 : x13_3 < (x5_2.length : Int):=od_ (by first|(with_reducible assumption)|assumption);obtain ⟨ad193,e193,hx193_0⟩:=Kd.at_int (Kd.R_reads' HO_5.out).2.2 x13_3 p193 q193;obtain rfl : (⟨go17,0,none⟩ : Addr) = ad193:=(by injection e193)
                  (first|simp only [add_plain] at hx193_0|simp only [add_at] at hx193_0|simp only [Addr.add,Nat.zero_add] at hx193_0|skip)
                  replace p193:=eq_true p193;replace q193:=eq_true q193
                  go_wp2
                  go_roundg k3
                  case measure=>have:=HK1.out;have:=HK2.out;have:=HK3.out;omega
                  case rel=>exact ⟨(x12_3),(wrap64 (x13_3 + 1)),(by first|rfl|(simp;done)|(simp [*];done)),H',⟨by have:=HK1.out;have:=HK2.out;have:=HK3.out;omega⟩,⟨by (try simp only [hl5_2]);(with_reducible repeat (first|apply Kd.S_alloc|apply Kd.S_drewN|apply Kd.S_drew));exact HO_4.out⟩,⟨by (try simp only [hl5_2]);(with_reducible repeat (first|apply Kd.R_alloc|apply Kd.R_drewN|apply Kd.R_drew));exact HO_5.out⟩,⟨by (try simp only [hl5_2]);(with_reducible repeat (first|apply Kd.R_alloc|apply Kd.R_drewN|apply Kd.R_drew));exact HO_12.out⟩,⟨by (try simp only [hl5_2]);(with_reducible repeat (first|apply kN_|apply kD_|apply kA_));exact BK162.out⟩,⟨by repeat (first|(with_reducible first|exact HB.out|apply bA_|apply bN_|apply bD_|refine bS_ ?_ GE162.out)|exact HB.out)⟩⟩
                · rw [if_neg c47] at H;exact absurd H (by simp)
               ·
                rw [if_neg c46] at H;have c46b0 : decide (x13_3 < (x5_2.length : Int)) = false:=decide_eq_false c46;clear c46
                by_cases c51 : x4_1.length < 5864062014805
                ·
                 rw [if_pos c51] at H;have LMc51:=am_ c51;clear c51;obtain ⟨y197,hy197⟩ : ∃ y_ : List (List Int),y_ = (x4_1 ++ [x12_3]):=⟨_,rfl⟩
                 replace H : (spec_PiecesOf.l0 k3 y197 x5_2 (wrap64 (x6_1 + 1)) a0_0 a0_1 l0_2) = some (r1,r2):=by first|(rw [hy197];with_reducible exact H)|(have H2_:=(Option.bind_some _ _).symm.trans H;rw [hy197];with_reducible exact H2_)|(have H2_:=(Option.bind_some _ _).symm.trans H;with_reducible exact H2_)|with_reducible exact H|(rw [hy197];exact H)|exact H
                 have Ny197:=am_ hy197;clear hy197;have H':=am_ H;clear H;obtain ⟨Ao53,co53,eo53⟩:=Kd.R_slice HO_12.out;subst eo53
                 go_wp2_with (first|((with_reducible refine gate_builtin (b:=.append) (xs:=#[.tmp 99,.tmp 101]) rfl ?_);at_builtin;refine Kd.S_append (Kd.slice 2 (Kd.int .i64)) (w0:=w) w.heap.size rfl (.tmp 99) (.tmp 101) 27 43 (.slice none 0 0) 24 rfl Try.underlying27 info43 rfl (by decide) (by omega) (.slice Ao20 x4_1.length co20) x4_1 x12_3 [.slice Ao53 x12_3.length co53] (fun _=>True) (fun k_=>some k_ = (.slice Ao53 x12_3.length co53 : Value).ownBlock) rfl rfl ?aP (fun k_ hk_=>((rM_ (ok':=fun k_=>((fun _=>True)) k_ ∧ some k_ ≠ (.slice Ao20 x4_1.length co20 : Value).ownBlock) (Kd.R_apart' (HO_12.out) (Kd.S_typed HO_4.out) (by decide)) (fun k_ hk=>⟨trivial,hk.2⟩))).1 k_ hk_.symm) ?aF ?aO ?aB ?aS ?aL ?_;(case aP=>exact Kd.M_row (rM_ (Kd.R_tight rfl (rM_ (ok':=fun k_=>((fun _=>True)) k_ ∧ some k_ ≠ (.slice Ao20 x4_1.length co20 : Value).ownBlock) (Kd.R_apart' (HO_12.out) (Kd.S_typed HO_4.out) (by decide)) (fun k_ hk=>⟨trivial,hk.2⟩))) (fun _ h_=>h_)));(case aB=>exact (by repeat (first|(with_reducible first|exact HB.out|apply bA_|apply bN_|apply bD_|refine bS_ ?_ GE162.out)|exact HB.out)));(case aF=>exact (fun _ _=>trivial));(case aO=>exact (by (with_reducible repeat (first|apply Kd.S_alloc|apply Kd.S_drewN|apply Kd.S_drew));exact Kd.S_mono HO_4.out (fun k_ hk=>⟨trivial,fun e_=>hk e_⟩)));(case aS=>exact (bZ_ (by repeat (first|(with_reducible first|exact HB.out|apply bA_|apply bN_|apply bD_|refine bS_ ?_ GE162.out)|exact HB.out))));(case aL=>have:=LMc51.out;omega);intro v198 w52 ho hb hg hat;rw [← Ny197.out] at ho;have n0_:=am_ (Kd.R_over' (by (with_reducible repeat (first|apply Kd.R_alloc|apply Kd.R_drewN|apply Kd.R_drew));exact HO_5.out) (Kd.S_typed (by (with_reducible repeat (first|apply Kd.S_alloc|apply Kd.S_drewN|apply Kd.S_drew));exact HO_4.out)) (by decide) hg);have n1_:=am_ (blk_grown (g:=gb162) (o:=.cells #[.int .i8 a0_0,.int .i8 a0_1,.slice A0_2 l0_2.length c0_2] 32 (0,0)) (by (with_reducible repeat (first|apply kN_|apply kD_|apply kA_));exact BK162.out) hg (Kd.S_ne HO_4.out BK162.out (by decide)));have n2_:=am_ (hb);have n3_:=am_ (ho);clear HO_5;clear BK162;clear HB;clear HO_4;clear HO_12;have HO_5:=n0_;have BK162:=n1_;have HB:=n2_;have HO199:=n3_;clear n0_ n1_ n2_ n3_;clear ho hb hg hat))
                 (try simp only [← hl5_2])
                 go_roundg k3
                 case measure=>have:=HK1.out;have:=HK2.out;have:=HK3.out;omega
                 case rel=>exact ⟨(y197),(x5_2),(wrap64 (x6_1 + 1)),(by first|rfl|(simp;done)|(simp [*];done)),H',⟨by have:=HK1.out;have:=HK2.out;have:=HK3.out;omega⟩,⟨by (try simp only [hl5_2]);(with_reducible repeat (first|apply Kd.S_alloc|apply Kd.S_drewN|apply Kd.S_drew));exact HO199.out⟩,⟨by (try simp only [hl5_2]);(with_reducible repeat (first|apply Kd.R_alloc|apply Kd.R_drewN|apply Kd.R_drew));exact HO_5.out⟩,⟨by (try simp only [hl5_2]);(with_reducible repeat (first|apply kN_|apply kD_|apply kA_));exact BK162.out⟩,⟨by repeat (first|(with_reducible first|exact HB.out|apply bA_|apply bN_|apply bD_|refine bS_ ?_ GE162.out)|exact HB.out)⟩⟩
                · rw [if_neg c51] at H;exact absurd H (by simp)
         ·
          rw [if_neg c16] at H;have c16b0 : ((rd x5_1 x6_1) == 0) = false:=beq_eq_false_iff_ne.mpr c16;have c16b1 : ((rd x5_1 x6_1) != 0) = true:=bne_iff_ne.mpr c16;have H':=am_ H;clear H;have hcz54_0 : wr.cell? ⟨gb162,0,none⟩ = some (.int .i8 a0_0):=(kC_ BK162.out 0).trans rfl;have hcz54_1 : wr.cell? ⟨gb162,1,none⟩ = some (.int .i8 a0_1):=(kC_ BK162.out 1).trans rfl;have hcz54_2 : wr.cell? ⟨gb162,2,none⟩ = some (.slice A0_2 l0_2.length c0_2):=(kC_ BK162.out 2).trans rfl;have hfz54_0:=kF_ BK162.out 0;have hfz54_1:=kF_ BK162.out 1;have hfz54_2:=kF_ BK162.out 2;obtain ⟨Ao55,co55,eo55⟩:=Kd.R_slice HO_5.out;subst eo55;have p173 : 0≤(x6_1 : Int):=od_ (by first|(with_reducible assumption)|assumption);have q173 : x6_1 < (x5_1.length : Int):=od_ (by first|(with_reducible assumption)|assumption);obtain ⟨ad173,e173,hx173_0⟩:=Kd.at_int (Kd.R_reads' HO_5.out).2.2 x6_1 p173 q173
          cases e173
          replace p173:=eq_true p173;replace q173:=eq_true q173
          go_wp2
          go_roundg k1
          case measure=>have:=HK1.out;omega
          case rel=>exact ⟨(x4_1),(x5_1),(wrap64 (x6_1 + 1)),(by first|rfl|(simp;done)|(simp [*];done)),H',⟨by have:=HK1.out;omega⟩,⟨by (with_reducible repeat (first|apply Kd.S_alloc|apply Kd.S_drewN|apply Kd.S_drew));exact HO_4.out⟩,⟨by (with_reducible repeat (first|apply Kd.R_alloc|apply Kd.R_drewN|apply Kd.R_drew));exact HO_5.out⟩,⟨by (with_reducible repeat (first|apply kN_|apply kD_|apply kA_));exact BK162.out⟩,⟨by repeat (first|(with_reducible first|exact HB.out|apply bA_|apply bN_|apply bD_|refine bS_ ?_ GE162.out)|exact HB.out)⟩⟩
        · rw [if_neg c15] at H;exact absurd H (by simp)
       · rw [if_neg c14] at H;exact absurd H (by simp)
      ·
       rw [if_neg c13] at H;have c13b0 : decide (x6_1 < (l0_2.length : Int)) = false:=decide_eq_false c13;clear c13;simp only [Option.some.injEq,Prod.mk.injEq] at H;obtain ⟨rfl,rfl⟩:=H;have hcz56_0 : wr.cell? ⟨gb162,0,none⟩ = some (.int .i8 a0_0):=(kC_ BK162.out 0).trans rfl;have hcz56_1 : wr.cell? ⟨gb162,1,none⟩ = some (.int .i8 a0_1):=(kC_ BK162.out 1).trans rfl;have hcz56_2 : wr.cell? ⟨gb162,2,none⟩ = some (.slice A0_2 l0_2.length c0_2):=(kC_ BK162.out 2).trans rfl;have hfz56_0:=kF_ BK162.out 0;have hfz56_1:=kF_ BK162.out 1;have hfz56_2:=kF_ BK162.out 2
       go_wp2
       go_ret2
       exact ⟨_,by first|rfl|(simp [errW_none,errW_some] <;> rfl)|(simp [*,errW_none,errW_some] <;> rfl),by (with_reducible repeat (first|apply Kd.S_alloc|apply Kd.S_drewN|apply Kd.S_drew));exact HO_4.out,by repeat (first|(with_reducible first|exact HB.out|apply bA_|apply bN_|apply bD_|refine bS_ ?_ GE162.out)|exact HB.out)⟩
   · rw [if_neg c5] at H;exact absurd H (by simp)
  · rw [if_neg c4] at H;exact absurd H (by simp)
 ·
  replace c3:=Bool.eq_false_iff.mpr c3;subst c3;have H1 : (some ((([] : List (List Int))),1)) = some (r1,r2):=by rw [if_neg (show ¬ (false = true) by decide)] at H;exact H
  clear H;have H:=H1;clear H1;obtain ⟨y164,hy164⟩ : ∃ y_ : List (List Int),y_ = (([] : List (List Int))):=⟨_,rfl⟩
  replace H : (some (y164,1)) = some (r1,r2):=by first|(rw [hy164];with_reducible exact H)|(have H2_:=(Option.bind_some _ _).symm.trans H;rw [hy164];with_reducible exact H2_)|(have H2_:=(Option.bind_some _ _).symm.trans H;with_reducible exact H2_)|with_reducible exact H|(rw [hy164];exact H)|exact H
  have Ny164:=am_ hy164;clear hy164;simp only [Option.some.injEq,Prod.mk.injEq] at H;obtain ⟨rfl,rfl⟩:=H
  go_enter Try.func5,Try.ntmps5
  go_wp2_with (first|((with_reducible refine gate_dst (N:=1) rfl ?_);refine box_event ?hg (N:=1) ?hd (cs:=#[.int .i8 a0_0,.int .i8 a0_1,.slice A0_2 l0_2.length c0_2]) (t:=32) ?hr ?_;(case hd=>rfl);(case hg=>rfl);(case hr=>first|(go_simp;done)|(go_simp;rfl));intro gb162 hg w57 hbox hb;have n0_:=am_ (bT_ (by repeat (first|(with_reducible first|exact HB.out|apply bA_|apply bN_|apply bD_)|exact HB.out)) hb);have n1_:=am_ (hbox);have n2_:=am_ ((by rw [hg];exact (bZ_ (by repeat (first|(with_reducible first|exact HB.out|apply bA_|apply bN_|apply bD_)|exact HB.out))) : w.heap.size≤gb162));have n3_:=n2_;clear HB;have HB:=n0_;have BK162:=n1_;have GW162:=n2_;have GE162:=n3_;clear n0_ n1_ n2_ n3_;clear hb hbox hg)|((with_reducible refine gate_callee (f:=14) rfl ?_);refine goesL_ (some 14) rfl rfl Try.func14 (by kernel_rfl) rfl #[.pointer (some ⟨gb162,0,none⟩)] rfl (by (try simp only [List.map_toArray,List.map_cons,List.map_nil]);first|done|rfl|(simp only [List.length_drop,List.length_take];rfl)) ?_;(with_reducible refine (spec_l01Ok.calls k _ 1 [(⟨a0_0,a0_1,l0_2⟩ : S32)] false _ ?side1 ?side2 A2.out).mono ?_);(case side1=>exact Kd.C_one_ (by (with_reducible repeat (first|apply kN_|apply kD_|apply kA_));exact BK162.out) (k32_mk _ _ (by exact HC0_2.out) (by repeat (first|exact (cB_ HR0_2.out HB.out)|(with_reducible refine Kd.C_alloc ?_ _)|(with_reducible refine Kd.C_drewN ?_ _)|(with_reducible refine Kd.C_drew ?_)))));(case side2=>exact Nat.le_refl _);rintro e w58 ⟨rfl,hb⟩;refine ⟨_,rfl,?_⟩;have n0_:=am_ (kB_ (g:=gb162) (o:=.cells #[.int .i8 a0_0,.int .i8 a0_1,.slice A0_2 l0_2.length c0_2] 32 (0,0)) (by (with_reducible repeat (first|apply kN_|apply kD_|apply kA_));exact BK162.out) hb);have n1_:=am_ (bT_ (by repeat (first|(with_reducible first|exact HB.out|apply bA_|apply bN_|apply bD_|refine bS_ ?_ GE162.out)|exact HB.out)) hb);clear BK162;clear HB;have BK162:=n0_;have HB:=n1_;clear n0_ n1_;(try clear hb hb2 hk hi))|((with_reducible refine gate_dst (N:=16) rfl ?_);refine Kd.S_lit (Kd.slice 2 (Kd.int .i64)) _ 43 ?hg (N:=16) ?hd (xs:=([] : List (List Int))) (inner:=[]) (ok:=fun _=>True) (okp:=fun _=>True) ?hr ?hp (fun _ hk=>hk) trivial (Below.refl _ _) (Nat.le_refl _) (by simp) ?_;(case hd=>rfl);(case hg=>rfl);(case hr=>first|(go_simp;done)|(go_simp;rfl));(case hp=>exact (Reps.none _ _));intro v165 w59 ho60 hb hg_ hnew_;clear hg_ hnew_;(first|rw [← Ny164.out] at ho60|(simp only [Int.reduceToNat] at ho60;rw [← Ny164.out] at ho60));have n0_:=am_ (Kd.S_lower ho60 (bZ_ (by repeat (first|(with_reducible first|exact HB.out|apply bA_|apply bN_|apply bD_|refine bS_ ?_ GE162.out)|exact HB.out))));have n1_:=am_ (kB_ (g:=gb162) (o:=.cells #[.int .i8 a0_0,.int .i8 a0_1,.slice A0_2 l0_2.length c0_2] 32 (0,0)) (by (with_reducible repeat (first|apply kN_|apply kD_|apply kA_));exact BK162.out) hb);have n2_:=am_ (bT_ (by repeat (first|(with_reducible first|exact HB.out|apply bA_|apply bN_|apply bD_|refine bS_ ?_ GE162.out)|exact HB.out)) hb);clear BK162;clear HB;have HO166:=n0_;have BK162:=n1_;have HB:=n2_;clear n0_ n1_ n2_;clear hb ho60))
  go_ret2
  exact ⟨_,by first|rfl|(simp [errW_none,errW_some] <;> rfl)|(simp [*,errW_none,errW_some] <;> rfl),by (with_reducible repeat (first|apply Kd.S_alloc|apply Kd.S_drewN|apply Kd.S_drew));exact HO166.out,by repeat (first|(with_reducible first|exact HB.out|apply bA_|apply bN_|apply bD_|refine bS_ ?_ GE162.out)|exact HB.out)⟩
end Go.Proofs.Ytljfjljeabcfgaa.Q
