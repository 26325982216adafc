-- Trimmed by a program.
import Derived.Test.YteinapckfhpdkaaDoorXQ0
import Derived.Test.YteinapckfhpdkaaDoorXQ13
import Derived.Test.YteinapckfhpdkaaDoorXQ14
namespace Go.Proofs.YteinapckfhpdkaaDoor.Q
open Go.RowKit Go.Proofs.YteinapckfhpdkaaDoorW.PrintWords Go.Proofs.YteinapckfhpdkaaDoorW.PrintLast Go.Proofs.YteinapckfhpdkaaDoorW.PrintMore
attribute [local go_sem] max2_int min2_int max_two min_two max_three min_three max_four min_four
set_option linter.unusedVariables false
set_option linter.unusedSimpArgs false
mutual
def impl_SquareText.l0 : Nat → List Int → Int → Int → Int → Int → List (S36) → Option (ByteArray)
 | 0,_,_,_,_,_,_=>none
 | k + 1,x3,x13,x14,x254000,x254001,x254002=>if x14 < x13 then (impl_SquareText.l1 k x3 x14 x13 x14 (wrap64 (x254000)) 0 x254000 x254001 x254002) else (some (strOfNums x3))
def impl_SquareText.l1 : Nat → List Int → Int → Int → Int → Int → Int → Int → Int → List (S36) → Option (ByteArray)
 | 0,_,_,_,_,_,_,_,_,_=>none
 | k + 1,x3,x4,x13,x14,x19,x20,x254000,x254001,x254002=>if x20 < x19 then ((impl_Square_at.f k x254000 x254001 x254002 x20 x4).bind fun t258=>(if t258 ≥ 0 then (if 0≤t258 then (if t258 < 60 then (if x3.length < 140737488355328 then (impl_SquareText.l1 k (x3 ++ [bt (⟨#[97,98,99,100,101,102,103,104,105,106,107,108,109,110,111,112,113,114,115,116,117,118,119,120,121,122,65,66,67,68,69,70,71,72,73,74,75,76,77,78,79,80,81,82,83,84,85,86,87,88,89,90,48,49,50,51,52,53,54,55]⟩ : ByteArray) t258]) x4 x13 x14 x19 (wrap64 (x20 + 1)) x254000 x254001 x254002) else (none)) else (none)) else (none)) else (if x3.length < 140737488355328 then (impl_SquareText.l1 k (x3 ++ [46]) x4 x13 x14 x19 (wrap64 (x20 + 1)) x254000 x254001 x254002) else (none)))) else (if x3.length < 140737488355328 then (impl_SquareText.l0 k (x3 ++ [10]) x13 (wrap64 (x14 + 1)) x254000 x254001 x254002) else (none))
end
def impl_SquareText.f (k : Nat) (a0_0 : Int) (a0_1 : Int) (l0_2 : List (S36)) : Option (ByteArray) := (impl_ValidSquare.f k a0_0 a0_1 l0_2).bind fun t254 => (if t254 = true then (impl_SquareText.l0 k (([] : List Int)) (wrap64 (a0_1)) 0 a0_0 a0_1 l0_2) else (some (⟨#[]⟩ : ByteArray)))
theorem impl_SquareText.mono_l : ∀ k, (∀ y0 y1 y2 y3 y4 y5, LeO (impl_SquareText.l0 k y0 y1 y2 y3 y4 y5) (impl_SquareText.l0 (k + 1) y0 y1 y2 y3 y4 y5)) ∧ (∀ y0 y1 y2 y3 y4 y5 y6 y7 y8, LeO (impl_SquareText.l1 k y0 y1 y2 y3 y4 y5 y6 y7 y8) (impl_SquareText.l1 (k + 1) y0 y1 y2 y3 y4 y5 y6 y7 y8))
 | 0=>⟨fun _ _ _ _ _ _ r h=>by simp [impl_SquareText.l0] at h,fun _ _ _ _ _ _ _ _ _ r h=>by simp [impl_SquareText.l1] at h⟩
 | k + 1=>by
  obtain ⟨ih0,ih1⟩:=impl_SquareText.mono_l k;refine ⟨?_,?_⟩
  ·
   intro y0 y1 y2 y3 y4 y5
   unfold impl_SquareText.l0
   repeat' first
   | (with_reducible exact ih0 _ _ _ _ _ _)
   | (with_reducible exact ih1 _ _ _ _ _ _ _ _ _)
   | (with_reducible exact impl_Square_at.mono _ _ _ _ _ _)
   | (with_reducible exact impl_ValidSquare.mono _ _ _ _)
   | (with_reducible exact LeO.refl _)
   | (with_reducible exact LeO.none _)
   | (with_reducible refine LeO.ite ?_ ?_)
   | (with_reducible refine LeO.bind ?_ (fun _=>?_))
   | exact ih0 _ _ _ _ _ _
   | exact ih1 _ _ _ _ _ _ _ _ _
   | exact impl_Square_at.mono _ _ _ _ _ _
   | exact impl_ValidSquare.mono _ _ _ _
   | exact LeO.none _
   | refine LeO.ite ?_ ?_
   | refine LeO.bind ?_ (fun _=>?_)
  ·
   intro y0 y1 y2 y3 y4 y5 y6 y7 y8
   unfold impl_SquareText.l1
   repeat' first
   | (with_reducible exact ih0 _ _ _ _ _ _)
   | (with_reducible exact ih1 _ _ _ _ _ _ _ _ _)
   | (with_reducible exact impl_Square_at.mono _ _ _ _ _ _)
   | (with_reducible exact impl_ValidSquare.mono _ _ _ _)
   | (with_reducible exact LeO.refl _)
   | (with_reducible exact LeO.none _)
   | (with_reducible refine LeO.ite ?_ ?_)
   | (with_reducible refine LeO.bind ?_ (fun _=>?_))
   | exact ih0 _ _ _ _ _ _
   | exact ih1 _ _ _ _ _ _ _ _ _
   | exact impl_Square_at.mono _ _ _ _ _ _
   | exact impl_ValidSquare.mono _ _ _ _
   | exact LeO.none _
   | refine LeO.ite ?_ ?_
   | refine LeO.bind ?_ (fun _=>?_)
theorem impl_SquareText.mono : ∀ a0 a1 a2 k, LeO (impl_SquareText.f k a0 a1 a2) (impl_SquareText.f (k + 1) a0 a1 a2) := by
 intro a0 a1 a2 k;obtain ⟨ih0,ih1⟩:=impl_SquareText.mono_l k
 unfold impl_SquareText.f
 repeat' first
   | (with_reducible exact ih0 _ _ _ _ _ _)
   | (with_reducible exact ih1 _ _ _ _ _ _ _ _ _)
   | (with_reducible exact impl_Square_at.mono _ _ _ _ _ _)
   | (with_reducible exact impl_ValidSquare.mono _ _ _ _)
   | (with_reducible exact LeO.refl _)
   | (with_reducible exact LeO.none _)
   | (with_reducible refine LeO.ite ?_ ?_)
   | (with_reducible refine LeO.bind ?_ (fun _=>?_))
   | exact ih0 _ _ _ _ _ _
   | exact ih1 _ _ _ _ _ _ _ _ _
   | exact impl_Square_at.mono _ _ _ _ _ _
   | exact impl_ValidSquare.mono _ _ _ _
   | exact LeO.none _
   | refine LeO.ite ?_ ?_
   | refine LeO.bind ?_ (fun _=>?_)
set_option maxHeartbeats 8000000 in
set_option maxRecDepth 100000 in
theorem impl_SquareText.calls (k : Nat) (a0_0 : Int) (a0_1 : Int) (A0_2 : Option Addr) (c0_2 : Nat) (l0_2 : List (S36)) (r : ByteArray) (w : World) (hr0_2 : Kd.C k36 w A0_2 l0_2.length l0_2) (hc0_2 : l0_2.length ≤ c0_2) (h : impl_SquareText.f k a0_0 a0_1 l0_2 = some r) :
  Calls Tryd.prog 19 #[.agg #[.int .i8 a0_0,.int .i8 a0_1,.slice A0_2 l0_2.length c0_2]] w fun e w'=>e = .returned (.string r) ∧ Below w.heap.size w w':=by
 have hu25:=Tryd.underlying25;have HR0_2:=am_ hr0_2;have HC0_2:=am_ hc0_2;clear hr0_2 hc0_2;have HB:=am_ (Below.refl w.heap.size w);have H : ((impl_ValidSquare.f k a0_0 a0_1 l0_2).bind fun t254=>(if t254 = true then (impl_SquareText.l0 k (([] : List Int)) (wrap64 (a0_1)) 0 a0_0 a0_1 l0_2) else (some (⟨#[]⟩ : ByteArray)))) = some r:=h;clear h;replace H:=Option.bind_eq_some_iff.mp H;obtain ⟨t254,A20,H⟩:=H;replace H : (if t254 = true then (impl_SquareText.l0 k (([] : List Int)) (wrap64 (a0_1)) 0 a0_0 a0_1 l0_2) else (some (⟨#[]⟩ : ByteArray))) = some r:=H;have A2:=am_ A20;clear A20
 by_cases c3 : t254 = true
 ·
  subst c3;have H1 : (impl_SquareText.l0 k (([] : List Int)) (wrap64 (a0_1)) 0 a0_0 a0_1 l0_2) = some r:=by rw [if_pos rfl] at H;exact H
  clear H;have H:=H1;clear H1;obtain ⟨y255,hy255⟩ : ∃ y_ : List Int,y_ = (([] : List Int)):=⟨_,rfl⟩
  replace H : (impl_SquareText.l0 k y255 (wrap64 (a0_1)) 0 a0_0 a0_1 l0_2) = some r:=by first|(rw [hy255];with_reducible exact H)|(have H2_:=(Option.bind_some _ _).symm.trans H;rw [hy255];with_reducible exact H2_)|(have H2_:=(Option.bind_some _ _).symm.trans H;with_reducible exact H2_)|with_reducible exact H|(rw [hy255];exact H)|exact H
  have Ny255:=am_ hy255;clear hy255;have H':=am_ H;clear H
  go_enter Tryd.func19,Tryd.ntmps19
  go_wp2_with (first|((with_reducible refine gate_dst (N:=1) rfl ?_);refine box_event ?hg (N:=1) ?hd (cs:=#[.int .i8 a0_0,.int .i8 a0_1,.slice A0_2 l0_2.length c0_2]) (t:=25) ?hr ?_;(case hd=>rfl);(case hg=>rfl);(case hr=>first|(go_simp;done)|(go_simp;rfl));intro gb253 hg w4 hbox hb;have n0_:=am_ (bT_ (by repeat (first|(with_reducible first|exact HB.out|apply bA_|apply bN_|apply bD_)|exact HB.out)) hb);have n1_:=am_ (hbox);have n2_:=am_ ((by rw [hg];exact (bZ_ (by repeat (first|(with_reducible first|exact HB.out|apply bA_|apply bN_|apply bD_)|exact HB.out))) : w.heap.size≤gb253));have n3_:=n2_;clear HB;have HB:=n0_;have BK253:=n1_;have GW253:=n2_;have GE253:=n3_;clear n0_ n1_ n2_ n3_;clear hb hbox hg;have hcz5_0 : w4.cell? ⟨gb253,0,none⟩ = some (.int .i8 a0_0):=(kC_ BK253.out 0).trans rfl;have hcz5_1 : w4.cell? ⟨gb253,1,none⟩ = some (.int .i8 a0_1):=(kC_ BK253.out 1).trans rfl;have hcz5_2 : w4.cell? ⟨gb253,2,none⟩ = some (.slice A0_2 l0_2.length c0_2):=(kC_ BK253.out 2).trans rfl;have hfz5_0:=kF_ BK253.out 0;have hfz5_1:=kF_ BK253.out 1;have hfz5_2:=kF_ BK253.out 2)|((with_reducible refine gate_callee (f:=28) rfl ?_);refine goesL_ (some 8) rfl rfl Tryd.func28 (by kernel_rfl) rfl #[.agg #[.int .i8 a0_0,.int .i8 a0_1,.slice A0_2 l0_2.length c0_2]] rfl (by (try simp only [List.map_toArray,List.map_cons,List.map_nil]);first|done|rfl|(simp only [List.length_drop,List.length_take];rfl)) ?_;(with_reducible refine (impl_ValidSquare.calls k a0_0 a0_1 _ _ l0_2 true _ ?side1 ?side2 A2.out).mono ?_);(case side1=>repeat (first|exact (cB_ HR0_2.out HB.out)|(with_reducible refine Kd.C_alloc ?_ _)|(with_reducible refine Kd.C_drewN ?_ _)|(with_reducible refine Kd.C_drew ?_)));(case side2=>exact HC0_2.out);rintro e w6 ⟨rfl,hb⟩;refine ⟨_,rfl,?_⟩;have n0_:=am_ (kB_ (g:=gb253) (o:=.cells #[.int .i8 a0_0,.int .i8 a0_1,.slice A0_2 l0_2.length c0_2] 25 (0,0)) (by (with_reducible repeat (first|apply kN_|apply kD_|apply kA_));exact BK253.out) hb);have n1_:=am_ (bT_ (by repeat (first|(with_reducible first|exact HB.out|apply bA_|apply bN_|apply bD_|refine bS_ ?_ GE253.out)|exact HB.out)) hb);clear BK253;clear HB;have BK253:=n0_;have HB:=n1_;clear n0_ n1_;(try clear hb);(try clear hb2);(try clear hk);(try clear hi))|((with_reducible refine gate_dst (N:=10) rfl ?_);refine Kd.R_lit (Kd.int .u8) _ 5 ?hg (N:=10) ?hd (xs:=([] : List Int)) (inner:=[]) (ok:=fun _=>True) (okp:=fun _=>True) ?hr ?hp (fun _ hk=>hk) trivial (Below.refl _ _) (Nat.le_refl _) (by simp) ?_;(case hd=>rfl);(case hg=>rfl);(case hr=>first|(go_simp;done)|(go_simp;rfl));(case hp=>exact (Reps.none _ _));intro v256 w7 ho8 hb hg_ hnew_;clear hg_ hnew_;(first|rw [← Ny255.out] at ho8|(simp only [Int.reduceToNat] at ho8;rw [← Ny255.out] at ho8));have n0_:=am_ (Kd.R_lower ho8 (bZ_ (by repeat (first|(with_reducible first|exact HB.out|apply bA_|apply bN_|apply bD_|refine bS_ ?_ GE253.out)|exact HB.out))));have n1_:=am_ (kB_ (g:=gb253) (o:=.cells #[.int .i8 a0_0,.int .i8 a0_1,.slice A0_2 l0_2.length c0_2] 25 (0,0)) (by (with_reducible repeat (first|apply kN_|apply kD_|apply kA_));exact BK253.out) hb);have n2_:=am_ (bT_ (by repeat (first|(with_reducible first|exact HB.out|apply bA_|apply bN_|apply bD_|refine bS_ ?_ GE253.out)|exact HB.out)) hb);clear BK253;clear HB;have HO257:=n0_;have BK253:=n1_;have HB:=n2_;clear n0_ n1_ n2_;clear hb ho8;have hcz9_0 : w7.cell? ⟨gb253,0,none⟩ = some (.int .i8 a0_0):=(kC_ BK253.out 0).trans rfl;have hcz9_1 : w7.cell? ⟨gb253,1,none⟩ = some (.int .i8 a0_1):=(kC_ BK253.out 1).trans rfl;have hcz9_2 : w7.cell? ⟨gb253,2,none⟩ = some (.slice A0_2 l0_2.length c0_2):=(kC_ BK253.out 2).trans rfl;have hfz9_0:=kF_ BK253.out 0;have hfz9_1:=kF_ BK253.out 1;have hfz9_2:=kF_ BK253.out 2))
  go_loopg [3,14] k (fun kq v3 v14 w'=>∃ (x3_1 : List Int) (x14_1 : Int),v14 = .int .i64 x14_1 ∧ Aside0 (impl_SquareText.l0 kq x3_1 (wrap64 (a0_1)) x14_1 a0_0 a0_1 l0_2 = some r) ∧ Aside0 (kq≤k) ∧ Aside0 (Kd.R (Kd.int .u8) 5 w' w.heap.size (fun _=>True) v3 x3_1) ∧ Aside0 (w'.heap[gb253]? = some (.cells #[.int .i8 a0_0,.int .i8 a0_1,(.slice A0_2 l0_2.length c0_2)] 25 (0,0))) ∧ Aside0 (Below w.heap.size w w'))
  case atStart=>exact ⟨(y255),(0),(by first|rfl|(simp;done)|(simp [*];done)),H',⟨Nat.le_refl _⟩,⟨by (with_reducible repeat (first|apply Kd.R_alloc|apply Kd.R_drewN|apply Kd.R_drew));exact HO257.out⟩,⟨by (with_reducible repeat (first|apply kN_|apply kD_|apply kA_));exact BK253.out⟩,⟨by repeat (first|(with_reducible first|exact HB.out|apply bA_|apply bN_|apply bD_|refine bS_ ?_ GE253.out)|exact HB.out)⟩⟩
  case round =>
   clear H';(try clear c1);(try clear c2);(try clear p2);(try clear c3);(try clear p6);(try clear hcz5_0);(try clear hcz5_1);(try clear hcz5_2);(try clear hcz9_0);(try clear hcz9_1);(try clear hcz9_2);(try clear hfz5_0);(try clear hfz5_1);(try clear hfz5_2);(try clear hfz9_0);(try clear hfz9_1);(try clear hfz9_2);obtain ⟨x3_1,x14_1,rfl,HA,HK1,HO_3,BK253,HB⟩:=hrel
   cases gk with
   | zero=>exact absurd HA.out (by simp [impl_SquareText.l0])
   | succ k1 =>
    have H:=HA.out;clear HA;simp only [impl_SquareText.l0] at H
    by_cases c10 : x14_1 < (wrap64 (a0_1))
    ·
     rw [if_pos c10] at H;have c10b0 : decide (x14_1 < (wrap64 (a0_1))) = true:=decide_eq_true c10;clear c10;have H':=am_ H;clear H;have hcz11_0 : wr.cell? ⟨gb253,0,none⟩ = some (.int .i8 a0_0):=(kC_ BK253.out 0).trans rfl;have hcz11_1 : wr.cell? ⟨gb253,1,none⟩ = some (.int .i8 a0_1):=(kC_ BK253.out 1).trans rfl;have hcz11_2 : wr.cell? ⟨gb253,2,none⟩ = some (.slice A0_2 l0_2.length c0_2):=(kC_ BK253.out 2).trans rfl;have hfz11_0:=kF_ BK253.out 0;have hfz11_1:=kF_ BK253.out 1;have hfz11_2:=kF_ BK253.out 2
     go_wp2
     go_loopg [3,20] k1 (fun kq v3 v20 w'=>∃ (x3_2 : List Int) (x20_2 : Int),v20 = .int .i64 x20_2 ∧ Aside0 (impl_SquareText.l1 kq x3_2 x14_1 (wrap64 (a0_1)) x14_1 (wrap64 (a0_0)) x20_2 a0_0 a0_1 l0_2 = some r) ∧ Aside0 (kq≤k1) ∧ Aside0 (Kd.R (Kd.int .u8) 5 w' w.heap.size (fun _=>True) v3 x3_2) ∧ Aside0 (w'.heap[gb253]? = some (.cells #[.int .i8 a0_0,.int .i8 a0_1,(.slice A0_2 l0_2.length c0_2)] 25 (0,0))) ∧ Aside0 (Below w.heap.size w w'))
     case atStart=>exact ⟨(x3_1),(0),(by first|rfl|(simp;done)|(simp [*];done)),H',⟨Nat.le_refl _⟩,⟨by (with_reducible repeat (first|apply Kd.R_alloc|apply Kd.R_drewN|apply Kd.R_drew));exact HO_3.out⟩,⟨by (with_reducible repeat (first|apply kN_|apply kD_|apply kA_));exact BK253.out⟩,⟨by repeat (first|(with_reducible first|exact HB.out|apply bA_|apply bN_|apply bD_|refine bS_ ?_ GE253.out)|exact HB.out)⟩⟩
     case round =>
      clear H';(try clear c1);(try clear c2);(try clear p2);(try clear c3);(try clear p6);(try clear c10);(try clear c10b0);(try clear hcz11_0);(try clear hcz11_1);(try clear hcz11_2);(try clear hcz5_0);(try clear hcz5_1);(try clear hcz5_2);(try clear hcz9_0);(try clear hcz9_1);(try clear hcz9_2);(try clear hfz11_0);(try clear hfz11_1);(try clear hfz11_2);(try clear hfz5_0);(try clear hfz5_1);(try clear hfz5_2);(try clear hfz9_0);(try clear hfz9_1);(try clear hfz9_2);(try clear p2);(try clear p6);obtain ⟨x3_2,x20_2,rfl,HA,HK2,HO_3,BK253,HB⟩:=hrel
      cases gk with
      | zero=>exact absurd HA.out (by simp [impl_SquareText.l1])
      | succ k2 =>
       have H:=HA.out;clear HA;simp only [impl_SquareText.l1] at H
       by_cases c12 : x20_2 < (wrap64 (a0_0))
       ·
        rw [if_pos c12] at H;have c12b0 : decide (x20_2 < (wrap64 (a0_0))) = true:=decide_eq_true c12;clear c12;replace H:=Option.bind_eq_some_iff.mp H;obtain ⟨t258,A130,H⟩:=H;replace H : (if t258 ≥ 0 then (if 0≤t258 then (if t258 < 60 then (if x3_2.length < 140737488355328 then (impl_SquareText.l1 k2 (x3_2 ++ [bt (⟨#[97,98,99,100,101,102,103,104,105,106,107,108,109,110,111,112,113,114,115,116,117,118,119,120,121,122,65,66,67,68,69,70,71,72,73,74,75,76,77,78,79,80,81,82,83,84,85,86,87,88,89,90,48,49,50,51,52,53,54,55]⟩ : ByteArray) t258]) x14_1 (wrap64 (a0_1)) x14_1 (wrap64 (a0_0)) (wrap64 (x20_2 + 1)) a0_0 a0_1 l0_2) else (none)) else (none)) else (none)) else (if x3_2.length < 140737488355328 then (impl_SquareText.l1 k2 (x3_2 ++ [46]) x14_1 (wrap64 (a0_1)) x14_1 (wrap64 (a0_0)) (wrap64 (x20_2 + 1)) a0_0 a0_1 l0_2) else (none))) = some r:=H;have A13:=am_ A130;clear A130
        by_cases c14 : t258 ≥ 0
        ·
         rw [if_pos c14] at H;have c14b0 : decide (0≤t258) = true:=decide_eq_true c14;clear c14
         by_cases c15 : 0≤t258
         ·
          rw [if_pos c15] at H;have c15b0 : decide (0≤t258) = true:=decide_eq_true c15;clear c15
          by_cases c16 : t258 < 60
          ·
           rw [if_pos c16] at H;have c16b0 : decide (t258 < 60) = true:=decide_eq_true c16;clear c16
           by_cases c18 : x3_2.length < 140737488355328
           ·
            rw [if_pos c18] at H;have LMc18:=am_ c18;clear c18;obtain ⟨y259,hy259⟩ : ∃ y_ : List Int,y_ = (x3_2 ++ [bt (⟨#[97,98,99,100,101,102,103,104,105,106,107,108,109,110,111,112,113,114,115,116,117,118,119,120,121,122,65,66,67,68,69,70,71,72,73,74,75,76,77,78,79,80,81,82,83,84,85,86,87,88,89,90,48,49,50,51,52,53,54,55]⟩ : ByteArray) t258]):=⟨_,rfl⟩
            replace H : (impl_SquareText.l1 k2 y259 x14_1 (wrap64 (a0_1)) x14_1 (wrap64 (a0_0)) (wrap64 (x20_2 + 1)) a0_0 a0_1 l0_2) = some r:=by first|(rw [hy259];with_reducible exact H)|(have H2_:=(Option.bind_some _ _).symm.trans H;rw [hy259];with_reducible exact H2_)|(have H2_:=(Option.bind_some _ _).symm.trans H;with_reducible exact H2_)|with_reducible exact H|(rw [hy259];exact H)|exact H
            have Ny259:=am_ hy259;clear hy259;have H':=am_ H;clear H;have hcz19_0 : wr.cell? ⟨gb253,0,none⟩ = some (.int .i8 a0_0):=(kC_ BK253.out 0).trans rfl;have hcz19_1 : wr.cell? ⟨gb253,1,none⟩ = some (.int .i8 a0_1):=(kC_ BK253.out 1).trans rfl;have hcz19_2 : wr.cell? ⟨gb253,2,none⟩ = some (.slice A0_2 l0_2.length c0_2):=(kC_ BK253.out 2).trans rfl;have hfz19_0:=kF_ BK253.out 0;have hfz19_1:=kF_ BK253.out 1;have hfz19_2:=kF_ BK253.out 2
            go_wp2_with (first|((with_reducible refine gate_callee (f:=29) rfl ?_);refine goesL_ (some 26) rfl rfl Tryd.func29 (by kernel_rfl) rfl #[.agg #[.int .i8 a0_0,.int .i8 a0_1,.slice A0_2 l0_2.length c0_2],.int .i64 x20_2,.int .i64 x14_1] rfl (by (try simp only [List.map_toArray,List.map_cons,List.map_nil]);first|done|rfl|(simp only [List.length_drop,List.length_take];rfl)) ?_;(with_reducible refine (impl_Square_at.calls k2 a0_0 a0_1 _ _ l0_2 x20_2 x14_1 t258 _ ?side1 ?side2 A13.out).mono ?_);(case side1=>repeat (first|exact (cB_ HR0_2.out HB.out)|(with_reducible refine Kd.C_alloc ?_ _)|(with_reducible refine Kd.C_drewN ?_ _)|(with_reducible refine Kd.C_drew ?_)));(case side2=>exact HC0_2.out);rintro e w20 ⟨rfl,hb⟩;refine ⟨_,rfl,?_⟩;have n0_:=am_ (Kd.R_below (by (with_reducible repeat (first|apply Kd.R_alloc|apply Kd.R_drewN|apply Kd.R_drew));exact HO_3.out) hb);have n1_:=am_ (kB_ (g:=gb253) (o:=.cells #[.int .i8 a0_0,.int .i8 a0_1,.slice A0_2 l0_2.length c0_2] 25 (0,0)) (by (with_reducible repeat (first|apply kN_|apply kD_|apply kA_));exact BK253.out) hb);have n2_:=am_ (bT_ (by repeat (first|(with_reducible first|exact HB.out|apply bA_|apply bN_|apply bD_|refine bS_ ?_ GE253.out)|exact HB.out)) hb);clear HO_3;clear BK253;clear HB;have HO_3:=n0_;have BK253:=n1_;have HB:=n2_;clear n0_ n1_ n2_;(try clear hb);(try clear hb2);(try clear hk);(try clear hi);have p17 : 0≤(t258 : Int):=od_ (by first|(with_reducible assumption)|assumption);have q17 : t258 < (60 : Int):=od_ (by first|(with_reducible assumption)|assumption);have hx17:=bt_at (⟨#[97,98,99,100,101,102,103,104,105,106,107,108,109,110,111,112,113,114,115,116,117,118,119,120,121,122,65,66,67,68,69,70,71,72,73,74,75,76,77,78,79,80,81,82,83,84,85,86,87,88,89,90,48,49,50,51,52,53,54,55]⟩ : ByteArray) t258;replace p17:=eq_true p17;replace q17:=eq_true q17)|((with_reducible refine gate_builtin (b:=.append) (xs:=#[.tmp 29,.tmp 32]) rfl ?_);at_builtin;refine Kd.R_append (Kd.int .u8) (w0:=w) w.heap.size rfl (.tmp 29) (.tmp 32) 43 5 (.int .u8 0) 1 rfl Tryd.underlying43 info5 rfl (by decide) (by omega) u3 x3_2 (bt (⟨#[97,98,99,100,101,102,103,104,105,106,107,108,109,110,111,112,113,114,115,116,117,118,119,120,121,122,65,66,67,68,69,70,71,72,73,74,75,76,77,78,79,80,81,82,83,84,85,86,87,88,89,90,48,49,50,51,52,53,54,55]⟩ : ByteArray) t258) [.int .u8 (bt (⟨#[97,98,99,100,101,102,103,104,105,106,107,108,109,110,111,112,113,114,115,116,117,118,119,120,121,122,65,66,67,68,69,70,71,72,73,74,75,76,77,78,79,80,81,82,83,84,85,86,87,88,89,90,48,49,50,51,52,53,54,55]⟩ : ByteArray) t258)] (fun _=>True) (fun _=>False) rfl rfl ?aP (fun _ hk=>hk.elim) ?aF ?aO ?aB ?aS ?aL ?_;(case aP=>exact rfl);(case aB=>exact (by repeat (first|(with_reducible first|exact HB.out|apply bA_|apply bN_|apply bD_|refine bS_ ?_ GE253.out)|exact HB.out)));(case aF=>exact (fun _ _=>trivial));(case aO=>exact (by (with_reducible repeat (first|apply Kd.R_alloc|apply Kd.R_drewN|apply Kd.R_drew));exact HO_3.out));(case aS=>exact (bZ_ (by repeat (first|(with_reducible first|exact HB.out|apply bA_|apply bN_|apply bD_|refine bS_ ?_ GE253.out)|exact HB.out))));(case aL=>have:=LMc18.out;omega);intro v260 w21 ho hb hg hat;rw [← Ny259.out] at ho;have n0_:=am_ (blk_grown (g:=gb253) (o:=.cells #[.int .i8 a0_0,.int .i8 a0_1,.slice A0_2 l0_2.length c0_2] 25 (0,0)) (by (with_reducible repeat (first|apply kN_|apply kD_|apply kA_));exact BK253.out) hg (Kd.R_ne HO_3.out BK253.out (by decide)));have n1_:=am_ (hb);have n2_:=am_ (ho);clear BK253;clear HB;clear HO_3;have BK253:=n0_;have HB:=n1_;have HO261:=n2_;clear n0_ n1_ n2_;clear ho hb hg hat))
            go_roundg k2
            case measure=>have:=HK1.out;have:=HK2.out;omega
            case rel=>exact ⟨(y259),(wrap64 (x20_2 + 1)),(by first|rfl|(simp;done)|(simp [*];done)),H',⟨by have:=HK1.out;have:=HK2.out;omega⟩,⟨by (with_reducible repeat (first|apply Kd.R_alloc|apply Kd.R_drewN|apply Kd.R_drew));exact HO261.out⟩,⟨by (with_reducible repeat (first|apply kN_|apply kD_|apply kA_));exact BK253.out⟩,⟨by repeat (first|(with_reducible first|exact HB.out|apply bA_|apply bN_|apply bD_|refine bS_ ?_ GE253.out)|exact HB.out)⟩⟩
           ·
            rw [if_neg c18] at H;exact absurd H (by simp)
          ·
           rw [if_neg c16] at H;exact absurd H (by simp)
         ·
          rw [if_neg c15] at H;exact absurd H (by simp)
        ·
         rw [if_neg c14] at H;have c14b0 : decide (0≤t258) = false:=decide_eq_false c14;clear c14
         by_cases c22 : x3_2.length < 140737488355328
         ·
          rw [if_pos c22] at H;have LMc22:=am_ c22;clear c22;obtain ⟨y262,hy262⟩ : ∃ y_ : List Int,y_ = (x3_2 ++ [46]):=⟨_,rfl⟩
          replace H : (impl_SquareText.l1 k2 y262 x14_1 (wrap64 (a0_1)) x14_1 (wrap64 (a0_0)) (wrap64 (x20_2 + 1)) a0_0 a0_1 l0_2) = some r:=by first|(rw [hy262];with_reducible exact H)|(have H2_:=(Option.bind_some _ _).symm.trans H;rw [hy262];with_reducible exact H2_)|(have H2_:=(Option.bind_some _ _).symm.trans H;with_reducible exact H2_)|with_reducible exact H|(rw [hy262];exact H)|exact H
          have Ny262:=am_ hy262;clear hy262;have H':=am_ H;clear H;have hcz23_0 : wr.cell? ⟨gb253,0,none⟩ = some (.int .i8 a0_0):=(kC_ BK253.out 0).trans rfl;have hcz23_1 : wr.cell? ⟨gb253,1,none⟩ = some (.int .i8 a0_1):=(kC_ BK253.out 1).trans rfl;have hcz23_2 : wr.cell? ⟨gb253,2,none⟩ = some (.slice A0_2 l0_2.length c0_2):=(kC_ BK253.out 2).trans rfl;have hfz23_0:=kF_ BK253.out 0;have hfz23_1:=kF_ BK253.out 1;have hfz23_2:=kF_ BK253.out 2
          go_wp2_with (first|((with_reducible refine gate_callee (f:=29) rfl ?_);refine goesL_ (some 26) rfl rfl Tryd.func29 (by kernel_rfl) rfl #[.agg #[.int .i8 a0_0,.int .i8 a0_1,.slice A0_2 l0_2.length c0_2],.int .i64 x20_2,.int .i64 x14_1] rfl (by (try simp only [List.map_toArray,List.map_cons,List.map_nil]);first|done|rfl|(simp only [List.length_drop,List.length_take];rfl)) ?_;(with_reducible refine (impl_Square_at.calls k2 a0_0 a0_1 _ _ l0_2 x20_2 x14_1 t258 _ ?side1 ?side2 A13.out).mono ?_);(case side1=>repeat (first|exact (cB_ HR0_2.out HB.out)|(with_reducible refine Kd.C_alloc ?_ _)|(with_reducible refine Kd.C_drewN ?_ _)|(with_reducible refine Kd.C_drew ?_)));(case side2=>exact HC0_2.out);rintro e w24 ⟨rfl,hb⟩;refine ⟨_,rfl,?_⟩;have n0_:=am_ (Kd.R_below (by (with_reducible repeat (first|apply Kd.R_alloc|apply Kd.R_drewN|apply Kd.R_drew));exact HO_3.out) hb);have n1_:=am_ (kB_ (g:=gb253) (o:=.cells #[.int .i8 a0_0,.int .i8 a0_1,.slice A0_2 l0_2.length c0_2] 25 (0,0)) (by (with_reducible repeat (first|apply kN_|apply kD_|apply kA_));exact BK253.out) hb);have n2_:=am_ (bT_ (by repeat (first|(with_reducible first|exact HB.out|apply bA_|apply bN_|apply bD_|refine bS_ ?_ GE253.out)|exact HB.out)) hb);clear HO_3;clear BK253;clear HB;have HO_3:=n0_;have BK253:=n1_;have HB:=n2_;clear n0_ n1_ n2_;(try clear hb);(try clear hb2);(try clear hk);(try clear hi))|((with_reducible refine gate_builtin (b:=.append) (xs:=#[.tmp 34,.tmp 35]) rfl ?_);at_builtin;refine Kd.R_append (Kd.int .u8) (w0:=w) w.heap.size rfl (.tmp 34) (.tmp 35) 43 5 (.int .u8 0) 1 rfl Tryd.underlying43 info5 rfl (by decide) (by omega) u3 x3_2 46 [.int .u8 46] (fun _=>True) (fun _=>False) rfl rfl ?aP (fun _ hk=>hk.elim) ?aF ?aO ?aB ?aS ?aL ?_;(case aP=>exact rfl);(case aB=>exact (by repeat (first|(with_reducible first|exact HB.out|apply bA_|apply bN_|apply bD_|refine bS_ ?_ GE253.out)|exact HB.out)));(case aF=>exact (fun _ _=>trivial));(case aO=>exact (by (with_reducible repeat (first|apply Kd.R_alloc|apply Kd.R_drewN|apply Kd.R_drew));exact HO_3.out));(case aS=>exact (bZ_ (by repeat (first|(with_reducible first|exact HB.out|apply bA_|apply bN_|apply bD_|refine bS_ ?_ GE253.out)|exact HB.out))));(case aL=>have:=LMc22.out;omega);intro v263 w25 ho hb hg hat;rw [← Ny262.out] at ho;have n0_:=am_ (blk_grown (g:=gb253) (o:=.cells #[.int .i8 a0_0,.int .i8 a0_1,.slice A0_2 l0_2.length c0_2] 25 (0,0)) (by (with_reducible repeat (first|apply kN_|apply kD_|apply kA_));exact BK253.out) hg (Kd.R_ne HO_3.out BK253.out (by decide)));have n1_:=am_ (hb);have n2_:=am_ (ho);clear BK253;clear HB;clear HO_3;have BK253:=n0_;have HB:=n1_;have HO264:=n2_;clear n0_ n1_ n2_;clear ho hb hg hat))
          go_roundg k2
          case measure=>have:=HK1.out;have:=HK2.out;omega
          case rel=>exact ⟨(y262),(wrap64 (x20_2 + 1)),(by first|rfl|(simp;done)|(simp [*];done)),H',⟨by have:=HK1.out;have:=HK2.out;omega⟩,⟨by (with_reducible repeat (first|apply Kd.R_alloc|apply Kd.R_drewN|apply Kd.R_drew));exact HO264.out⟩,⟨by (with_reducible repeat (first|apply kN_|apply kD_|apply kA_));exact BK253.out⟩,⟨by repeat (first|(with_reducible first|exact HB.out|apply bA_|apply bN_|apply bD_|refine bS_ ?_ GE253.out)|exact HB.out)⟩⟩
         ·
          rw [if_neg c22] at H;exact absurd H (by simp)
       ·
        rw [if_neg c12] at H;have c12b0 : decide (x20_2 < (wrap64 (a0_0))) = false:=decide_eq_false c12;clear c12
        by_cases c26 : x3_2.length < 140737488355328
        ·
         rw [if_pos c26] at H;have LMc26:=am_ c26;clear c26;obtain ⟨y265,hy265⟩ : ∃ y_ : List Int,y_ = (x3_2 ++ [10]):=⟨_,rfl⟩
         replace H : (impl_SquareText.l0 k2 y265 (wrap64 (a0_1)) (wrap64 (x14_1 + 1)) a0_0 a0_1 l0_2) = some r:=by first|(rw [hy265];with_reducible exact H)|(have H2_:=(Option.bind_some _ _).symm.trans H;rw [hy265];with_reducible exact H2_)|(have H2_:=(Option.bind_some _ _).symm.trans H;with_reducible exact H2_)|with_reducible exact H|(rw [hy265];exact H)|exact H
         have Ny265:=am_ hy265;clear hy265;have H':=am_ H;clear H
         go_wp2_with (first|((with_reducible refine gate_builtin (b:=.append) (xs:=#[.tmp 38,.tmp 39]) rfl ?_);at_builtin;refine Kd.R_append (Kd.int .u8) (w0:=w) w.heap.size rfl (.tmp 38) (.tmp 39) 43 5 (.int .u8 0) 1 rfl Tryd.underlying43 info5 rfl (by decide) (by omega) u3 x3_2 10 [.int .u8 10] (fun _=>True) (fun _=>False) rfl rfl ?aP (fun _ hk=>hk.elim) ?aF ?aO ?aB ?aS ?aL ?_;(case aP=>exact rfl);(case aB=>exact (by repeat (first|(with_reducible first|exact HB.out|apply bA_|apply bN_|apply bD_|refine bS_ ?_ GE253.out)|exact HB.out)));(case aF=>exact (fun _ _=>trivial));(case aO=>exact (by (with_reducible repeat (first|apply Kd.R_alloc|apply Kd.R_drewN|apply Kd.R_drew));exact HO_3.out));(case aS=>exact (bZ_ (by repeat (first|(with_reducible first|exact HB.out|apply bA_|apply bN_|apply bD_|refine bS_ ?_ GE253.out)|exact HB.out))));(case aL=>have:=LMc26.out;omega);intro v266 w27 ho hb hg hat;rw [← Ny265.out] at ho;have n0_:=am_ (blk_grown (g:=gb253) (o:=.cells #[.int .i8 a0_0,.int .i8 a0_1,.slice A0_2 l0_2.length c0_2] 25 (0,0)) (by (with_reducible repeat (first|apply kN_|apply kD_|apply kA_));exact BK253.out) hg (Kd.R_ne HO_3.out BK253.out (by decide)));have n1_:=am_ (hb);have n2_:=am_ (ho);clear BK253;clear HB;clear HO_3;have BK253:=n0_;have HB:=n1_;have HO267:=n2_;clear n0_ n1_ n2_;clear ho hb hg hat))
         go_roundg k2
         case measure=>have:=HK1.out;have:=HK2.out;omega
         case rel=>exact ⟨(y265),(wrap64 (x14_1 + 1)),(by first|rfl|(simp;done)|(simp [*];done)),H',⟨by have:=HK1.out;have:=HK2.out;omega⟩,⟨by (with_reducible repeat (first|apply Kd.R_alloc|apply Kd.R_drewN|apply Kd.R_drew));exact HO267.out⟩,⟨by (with_reducible repeat (first|apply kN_|apply kD_|apply kA_));exact BK253.out⟩,⟨by repeat (first|(with_reducible first|exact HB.out|apply bA_|apply bN_|apply bD_|refine bS_ ?_ GE253.out)|exact HB.out)⟩⟩
        ·
         rw [if_neg c26] at H;exact absurd H (by simp)
    ·
     rw [if_neg c10] at H;have c10b0 : decide (x14_1 < (wrap64 (a0_1))) = false:=decide_eq_false c10;clear c10;obtain rfl:=Option.some.inj H;have hcv28:=own_string (P:=Tryd.prog) Tryd.underlying43 Tryd.underlying5 Tryd.underlying9 (Kd.own_of_R HO_3.out)
     go_wp2
     go_ret
     exact ⟨by first|rfl|(simp [errW_none,errW_some] <;> rfl)|(simp [*,errW_none,errW_some] <;> rfl),by repeat (first|(with_reducible first|exact HB.out|apply bA_|apply bN_|apply bD_|refine bS_ ?_ GE253.out)|exact HB.out)⟩
 ·
  replace c3:=Bool.eq_false_iff.mpr c3;subst c3;have H1 : (some (⟨#[]⟩ : ByteArray)) = some r:=by rw [if_neg (show ¬ (false = true) by decide)] at H;exact H
  clear H;have H:=H1;clear H1;obtain rfl:=Option.some.inj H
  go_enter Tryd.func19,Tryd.ntmps19
  go_wp2_with (first|((with_reducible refine gate_dst (N:=1) rfl ?_);refine box_event ?hg (N:=1) ?hd (cs:=#[.int .i8 a0_0,.int .i8 a0_1,.slice A0_2 l0_2.length c0_2]) (t:=25) ?hr ?_;(case hd=>rfl);(case hg=>rfl);(case hr=>first|(go_simp;done)|(go_simp;rfl));intro gb253 hg w29 hbox hb;have n0_:=am_ (bT_ (by repeat (first|(with_reducible first|exact HB.out|apply bA_|apply bN_|apply bD_)|exact HB.out)) hb);have n1_:=am_ (hbox);have n2_:=am_ ((by rw [hg];exact (bZ_ (by repeat (first|(with_reducible first|exact HB.out|apply bA_|apply bN_|apply bD_)|exact HB.out))) : w.heap.size≤gb253));have n3_:=n2_;clear HB;have HB:=n0_;have BK253:=n1_;have GW253:=n2_;have GE253:=n3_;clear n0_ n1_ n2_ n3_;clear hb hbox hg;have hcz30_0 : w29.cell? ⟨gb253,0,none⟩ = some (.int .i8 a0_0):=(kC_ BK253.out 0).trans rfl;have hcz30_1 : w29.cell? ⟨gb253,1,none⟩ = some (.int .i8 a0_1):=(kC_ BK253.out 1).trans rfl;have hcz30_2 : w29.cell? ⟨gb253,2,none⟩ = some (.slice A0_2 l0_2.length c0_2):=(kC_ BK253.out 2).trans rfl;have hfz30_0:=kF_ BK253.out 0;have hfz30_1:=kF_ BK253.out 1;have hfz30_2:=kF_ BK253.out 2)|((with_reducible refine gate_callee (f:=28) rfl ?_);refine goesL_ (some 8) rfl rfl Tryd.func28 (by kernel_rfl) rfl #[.agg #[.int .i8 a0_0,.int .i8 a0_1,.slice A0_2 l0_2.length c0_2]] rfl (by (try simp only [List.map_toArray,List.map_cons,List.map_nil]);first|done|rfl|(simp only [List.length_drop,List.length_take];rfl)) ?_;(with_reducible refine (impl_ValidSquare.calls k a0_0 a0_1 _ _ l0_2 false _ ?side1 ?side2 A2.out).mono ?_);(case side1=>repeat (first|exact (cB_ HR0_2.out HB.out)|(with_reducible refine Kd.C_alloc ?_ _)|(with_reducible refine Kd.C_drewN ?_ _)|(with_reducible refine Kd.C_drew ?_)));(case side2=>exact HC0_2.out);rintro e w31 ⟨rfl,hb⟩;refine ⟨_,rfl,?_⟩;have n0_:=am_ (kB_ (g:=gb253) (o:=.cells #[.int .i8 a0_0,.int .i8 a0_1,.slice A0_2 l0_2.length c0_2] 25 (0,0)) (by (with_reducible repeat (first|apply kN_|apply kD_|apply kA_));exact BK253.out) hb);have n1_:=am_ (bT_ (by repeat (first|(with_reducible first|exact HB.out|apply bA_|apply bN_|apply bD_|refine bS_ ?_ GE253.out)|exact HB.out)) hb);clear BK253;clear HB;have BK253:=n0_;have HB:=n1_;clear n0_ n1_;(try clear hb);(try clear hb2);(try clear hk);(try clear hi)))
  go_ret
  exact ⟨by first|rfl|(simp [errW_none,errW_some] <;> rfl)|(simp [*,errW_none,errW_some] <;> rfl),by repeat (first|(with_reducible first|exact HB.out|apply bA_|apply bN_|apply bD_|refine bS_ ?_ GE253.out)|exact HB.out)⟩
end Go.Proofs.YteinapckfhpdkaaDoor.Q
