-- Trimmed by a program.
import Derived.Test.YteinapckfhpdkaaDoorXQ0
import Derived.Test.YteinapckfhpdkaaDoorXQ1
import Derived.Test.YteinapckfhpdkaaDoorXQ4
namespace Go.Proofs.YteinapckfhpdkaaDoor.Q
open Go.RowKit Go.Proofs.YteinapckfhpdkaaDoorW.PrintWords Go.Proofs.YteinapckfhpdkaaDoorW.PrintLast Go.Proofs.YteinapckfhpdkaaDoorW.PrintMore
attribute [local go_sem] max2_int min2_int max_two min_two max_three min_three max_four min_four
set_option linter.unusedVariables false
set_option linter.unusedSimpArgs false
mutual
def spec_l01Text.l0 : Nat → List (S25) → ByteArray → Int → List Int → Option (ByteArray)
 | 0,_,_,_,_=>none
 | k + 1,x0,x5,x6,x146000=>if 0 < (x0.length : Int) then (if x6 < ((rd_T25 x0 0).f1) then (spec_l01Text.l1 k x0 x5 x6 0 x146000) else (some x5)) else (none)
def spec_l01Text.l1 : Nat → List (S25) → ByteArray → Int → Int → List Int → Option (ByteArray)
 | 0,_,_,_,_,_=>none
 | k + 1,x0,x5,x6,x7,x146000=>if 0 < (x0.length : Int) then (if x7 < ((rd_T25 x0 0).f0) then (if 0≤x6 then (if x6 < 12 then (if 0≤x7 then (if x7 < 12 then (if x6 * 12 + x7 < (x146000.length : Int) then (if (rd x146000 (x6 * 12 + x7)) = 0 then (if x5.size + 1≤9223372036854775807 then (spec_l01Text.l1 k x0 (x5 ++ (⟨#[46]⟩ : ByteArray)) x6 (IntKind.i8.wrap (x7 + 1)) x146000) else (none)) else ((spec_l01Letter.f (wrap64 ((rd x146000 (x6 * 12 + x7)) - 1))).bind fun t150=>((some (([t150] : List Int) : List Int)).bind fun y151=>(if x5.size + (strOfNums y151).size≤9223372036854775807 then (spec_l01Text.l1 k x0 (x5 ++ (strOfNums y151)) x6 (IntKind.i8.wrap (x7 + 1)) x146000) else (none))))) else (none)) else (none)) else (none)) else (none)) else (none)) else (if x5.size + 1≤9223372036854775807 then (spec_l01Text.l0 k x0 (x5 ++ (⟨#[10]⟩ : ByteArray)) (IntKind.i8.wrap (x6 + 1)) x146000) else (none))) else (none)
end
def spec_l01Text.f (k : Nat) (l0 : List (S25)) : Option (ByteArray) := (spec_l01Lay.f k l0).bind fun bt143 => (if bt143.1.length = 144 then (spec_l01Text.l0 k l0 (⟨#[]⟩ : ByteArray) 0 bt143.1) else (none))
theorem spec_l01Text.mono_l : ∀ k, (∀ y0 y1 y2 y3, LeO (spec_l01Text.l0 k y0 y1 y2 y3) (spec_l01Text.l0 (k + 1) y0 y1 y2 y3)) ∧ (∀ y0 y1 y2 y3 y4, LeO (spec_l01Text.l1 k y0 y1 y2 y3 y4) (spec_l01Text.l1 (k + 1) y0 y1 y2 y3 y4))
 | 0=>⟨fun _ _ _ _ r h=>by simp [spec_l01Text.l0] at h,fun _ _ _ _ _ r h=>by simp [spec_l01Text.l1] at h⟩
 | k + 1=>by
  obtain ⟨ih0,ih1⟩:=spec_l01Text.mono_l k;refine ⟨?_,?_⟩
  ·
   intro y0 y1 y2 y3
   unfold spec_l01Text.l0
   repeat' first
   | (with_reducible exact ih0 _ _ _ _)
   | (with_reducible exact ih1 _ _ _ _ _)
   | (with_reducible exact spec_l01Lay.mono _ _)
   | (with_reducible exact LeO.refl _)
   | (with_reducible exact LeO.none _)
   | (with_reducible refine LeO.ite ?_ ?_)
   | (with_reducible refine LeO.bind ?_ (fun _=>?_))
   | exact ih0 _ _ _ _
   | exact ih1 _ _ _ _ _
   | exact spec_l01Lay.mono _ _
   | exact LeO.none _
   | refine LeO.ite ?_ ?_
   | refine LeO.bind ?_ (fun _=>?_)
  ·
   intro y0 y1 y2 y3 y4
   unfold spec_l01Text.l1
   repeat' first
   | (with_reducible exact ih0 _ _ _ _)
   | (with_reducible exact ih1 _ _ _ _ _)
   | (with_reducible exact spec_l01Lay.mono _ _)
   | (with_reducible exact LeO.refl _)
   | (with_reducible exact LeO.none _)
   | (with_reducible refine LeO.ite ?_ ?_)
   | (with_reducible refine LeO.bind ?_ (fun _=>?_))
   | exact ih0 _ _ _ _
   | exact ih1 _ _ _ _ _
   | exact spec_l01Lay.mono _ _
   | exact LeO.none _
   | refine LeO.ite ?_ ?_
   | refine LeO.bind ?_ (fun _=>?_)
theorem spec_l01Text.mono : ∀ a0 k, LeO (spec_l01Text.f k a0) (spec_l01Text.f (k + 1) a0) := by
 intro a0 k;obtain ⟨ih0,ih1⟩:=spec_l01Text.mono_l k
 unfold spec_l01Text.f
 repeat' first
   | (with_reducible exact ih0 _ _ _ _)
   | (with_reducible exact ih1 _ _ _ _ _)
   | (with_reducible exact spec_l01Lay.mono _ _)
   | (with_reducible exact LeO.refl _)
   | (with_reducible exact LeO.none _)
   | (with_reducible refine LeO.ite ?_ ?_)
   | (with_reducible refine LeO.bind ?_ (fun _=>?_))
   | exact ih0 _ _ _ _
   | exact ih1 _ _ _ _ _
   | exact spec_l01Lay.mono _ _
   | exact LeO.none _
   | refine LeO.ite ?_ ?_
   | refine LeO.bind ?_ (fun _=>?_)
set_option maxHeartbeats 8000000 in
set_option maxRecDepth 100000 in
theorem spec_l01Text.calls (k : Nat) (A0 : Option Addr) (c0 : Nat) (l0 : List (S25)) (r : ByteArray) (w : World) (hr0 : Kd.C k25 w A0 l0.length l0) (hc0 : l0.length ≤ c0) (h : spec_l01Text.f k l0 = some r) :
  Calls Tryd.prog 13 #[.pointer A0] w fun e w'=>e = .returned (.string r) ∧ Below w.heap.size w w':=by
 have hu54:=Tryd.underlying54;have HR0:=am_ hr0;have HC0:=am_ hc0;clear hr0 hc0;have HB:=am_ (Below.refl w.heap.size w);have H : ((spec_l01Lay.f k l0).bind fun bt143=>(if bt143.1.length = 144 then (spec_l01Text.l0 k l0 (⟨#[]⟩ : ByteArray) 0 bt143.1) else (none))) = some r:=h;clear h;replace H:=Option.bind_eq_some_iff.mp H;obtain ⟨⟨t143,t144⟩,A20,H⟩:=H;replace H : (if t143.length = 144 then (spec_l01Text.l0 k l0 (⟨#[]⟩ : ByteArray) 0 t143) else (none)) = some r:=H;have A2:=am_ A20;clear A20
 by_cases c3 : t143.length = 144
 ·
  rw [if_pos c3] at H;have c3b0:=eq_true c3;have c3b1 : decide (t143.length = 144) = true:=decide_eq_true c3;clear c3;have H':=am_ H;clear H
  go_enter Tryd.func13,Tryd.ntmps13
  go_wp2_with (first|((with_reducible refine gate_callee (f:=24) rfl ?_);refine goesL_ (some 10) rfl rfl Tryd.func24 (by kernel_rfl) rfl #[.pointer A0] rfl (by (try simp only [List.map_toArray,List.map_cons,List.map_nil]);first|done|rfl|(simp only [List.length_drop,List.length_take];rfl)) ?_;(with_reducible refine (spec_l01Lay.calls k _ c0 l0 t143 t144 _ ?side1 ?side2 A2.out).mono ?_);(case side1=>repeat (first|exact HR0.out|(with_reducible refine Kd.C_alloc ?_ _)|(with_reducible refine Kd.C_drewN ?_ _)|(with_reducible refine Kd.C_drew ?_)));(case side2=>exact HC0.out);rintro e w4 ⟨rfl,hb⟩;refine ⟨_,rfl,?_⟩;have n0_:=am_ (bT_ (by repeat (first|(with_reducible first|exact HB.out|apply bA_|apply bN_|apply bD_)|exact HB.out)) hb);clear HB;have HB:=n0_;clear n0_;(try clear hb);(try clear hb2);(try clear hk);(try clear hi))|((with_reducible refine gate_dst (N:=3) rfl ?_);refine box_event ?hg (N:=3) ?hd (cs:=(arrC .i64 (arrZ 144))) (t:=54) ?hr ?_;(case hd=>rfl);(case hg=>rfl);(case hr=>exact arr_alloc rfl .i64 144 (by kernel_rfl));intro gb145 hg w5 hbox hb;have n0_:=am_ (bT_ (by repeat (first|(with_reducible first|exact HB.out|apply bA_|apply bN_|apply bD_)|exact HB.out)) hb);have n1_:=am_ (hbox);have n2_:=am_ ((by rw [hg];exact (bZ_ (by repeat (first|(with_reducible first|exact HB.out|apply bA_|apply bN_|apply bD_)|exact HB.out))) : w.heap.size≤gb145));have n3_:=n2_;clear HB;have HB:=n0_;have BK145:=n1_;have GW145:=n2_;have GE145:=n3_;clear n0_ n1_ n2_ n3_;clear hb hbox hg)|((with_reducible refine gate_store (t:=54) (p:=3) rfl ?_);refine arr_store (p:=3) (v:=?vv_w6) (n:=144) (k:=.i64) (g:=gb145) (l:=(arrZ 144)) (l2:=t143) ?hg ?hn (t:=54) ?ho ?hp ?hv (by (with_reducible repeat (first|apply kN_|apply kD_|apply kA_));exact BK145.out) (by kernel_rfl) (arrZ_length _) (od_ (by first|(with_reducible assumption)|assumption)) ?_;(case ho=>rfl);(case hg=>rfl);(case hn=>rfl);(case hp=>rfl);(case hv=>rfl);intro w6 hg hx;have n0_:=am_ (hx);have n1_:=am_ (Below.grown (by repeat (first|(with_reducible first|exact HB.out|apply bA_|apply bN_|apply bD_|refine bS_ ?_ GE145.out)|exact HB.out)) hg (bZ_ (by repeat (first|(with_reducible first|exact HB.out|apply bA_|apply bN_|apply bD_|refine bS_ ?_ GE145.out)|exact HB.out))) (fun k_ e_=>by cases e_;exact GE145.out));clear BK145;clear HB;have BK145:=n0_;have HB:=n1_;clear n0_ n1_;clear hg hx))
  go_loopg [5,6] k (fun kq v5 v6 w'=>∃ (x5_1 : ByteArray) (x6_1 : Int),v5 = .string x5_1 ∧ v6 = .int .i8 x6_1 ∧ Aside0 (spec_l01Text.l0 kq l0 x5_1 x6_1 t143 = some r) ∧ Aside0 (kq≤k) ∧ Aside0 (w'.heap[gb145]? = some (.cells (arrC .i64 t143) 54 (0,0))) ∧ Aside0 (Below w.heap.size w w'))
  case atStart=>exact ⟨((⟨#[]⟩ : ByteArray)),(0),(by first|rfl|(simp;done)|(simp [*];done)),(by first|rfl|(simp;done)|(simp [*];done)),H',⟨Nat.le_refl _⟩,⟨by (with_reducible repeat (first|apply kN_|apply kD_|apply kA_));exact BK145.out⟩,⟨by repeat (first|(with_reducible first|exact HB.out|apply bA_|apply bN_|apply bD_|refine bS_ ?_ GE145.out)|exact HB.out)⟩⟩
  case round =>
   clear H';(try clear c1);(try clear c2);(try clear p2);(try clear c3);(try clear c3b0);(try clear c3b1);obtain ⟨x5_1,x6_1,rfl,rfl,HA,HK1,BK145,HB⟩:=hrel
   cases gk with
   | zero=>exact absurd HA.out (by simp [spec_l01Text.l0])
   | succ k1 =>
    have H:=HA.out;clear HA;simp only [spec_l01Text.l0] at H
    by_cases c7 : 0 < (l0.length : Int)
    ·
     rw [if_pos c7] at H;have c7b0 : decide (0 < (l0.length : Int)) = true:=decide_eq_true c7;have c7b1 : decide (0 < l0.length) = true:=decide_eq_true (by omega);clear c7
     by_cases c8 : x6_1 < ((rd_T25 l0 0).f1)
     ·
      rw [if_pos c8] at H;have c8b0 : decide (x6_1 < ((rd_T25 l0 0).f1)) = true:=decide_eq_true c8;clear c8;have H':=am_ H;clear H;have p146 : 0≤(0 : Int):=(by omega)
      have q146 : 0 < (l0.length : Int):=od_ (by first|(with_reducible assumption)|assumption);obtain ⟨ad146,A146_2,c146_2,e146,hx146_0,hx146_1,hx146_2,hl146_2,hi146_2⟩:=at_T25 HR0.out 0 p146 q146
      cases e146
      have qi146 : (0 < l0.length) = True:=eq_true (by omega);(try rw [show ((0 : Int)).toNat = 0 from rfl] at hx146_0);(try rw [show 0 * 3 = 0 from rfl] at hx146_0);(try rw [Addr.add_zero'] at hx146_0);(try rw [show ((0 : Int)).toNat = 0 from rfl] at hx146_1);(try rw [show 0 * 3 = 0 from rfl] at hx146_1);(try rw [Addr.add_zero'] at hx146_1);(try rw [show ((0 : Int)).toNat = 0 from rfl] at hx146_2);(try rw [show 0 * 3 = 0 from rfl] at hx146_2);(try rw [Addr.add_zero'] at hx146_2);replace hx146_0:=(HB.out.cell (bl_ w _ hx146_0)).trans hx146_0;replace hx146_1:=(HB.out.cell (bl_ w _ hx146_1)).trans hx146_1;replace hx146_2:=(HB.out.cell (bl_ w _ hx146_2)).trans hx146_2;have HR146_2:=am_ hi146_2;have HC146_2:=am_ hl146_2;clear hi146_2 hl146_2;replace p146:=eq_true p146;replace q146:=eq_true q146;have p147 : 0≤(0 : Int):=(by omega)
      have q147 : 0 < (l0.length : Int):=od_ (by first|(with_reducible assumption)|assumption);obtain ⟨ad147,A147_2,c147_2,e147,hx147_0,hx147_1,hx147_2,hl147_2,hi147_2⟩:=at_T25 HR0.out 0 p147 q147;obtain rfl : ad146 = ad147:=(by injection e147)
      have qi147 : (0 < l0.length) = True:=eq_true (by omega);(try rw [show ((0 : Int)).toNat = 0 from rfl] at hx147_0);(try rw [show 0 * 3 = 0 from rfl] at hx147_0);(try rw [Addr.add_zero'] at hx147_0);(try rw [show ((0 : Int)).toNat = 0 from rfl] at hx147_1);(try rw [show 0 * 3 = 0 from rfl] at hx147_1);(try rw [Addr.add_zero'] at hx147_1);(try rw [show ((0 : Int)).toNat = 0 from rfl] at hx147_2);(try rw [show 0 * 3 = 0 from rfl] at hx147_2);(try rw [Addr.add_zero'] at hx147_2);replace hx147_0:=(HB.out.cell (bl_ w _ hx147_0)).trans hx147_0;replace hx147_1:=(HB.out.cell (bl_ w _ hx147_1)).trans hx147_1;replace hx147_2:=(HB.out.cell (bl_ w _ hx147_2)).trans hx147_2;have HR147_2:=am_ hi147_2;have HC147_2:=am_ hl147_2;clear hi147_2 hl147_2;replace p147:=eq_true p147;replace q147:=eq_true q147;have ea_:=Option.some.inj (hx146_2.symm.trans hx147_2)
      injection ea_ with ea_ en_ ec_
      subst ea_;subst ec_;clear en_
      go_wp2
      go_loopg [5,7] k1 (fun kq v5 v7 w'=>∃ (x5_2 : ByteArray) (x7_2 : Int),v5 = .string x5_2 ∧ v7 = .int .i8 x7_2 ∧ Aside0 (spec_l01Text.l1 kq l0 x5_2 x6_1 x7_2 t143 = some r) ∧ Aside0 (kq≤k1) ∧ Aside0 (w'.heap[gb145]? = some (.cells (arrC .i64 t143) 54 (0,0))) ∧ Aside0 (Below w.heap.size w w'))
      case atStart=>exact ⟨(x5_1),(0),(by first|rfl|(simp;done)|(simp [*];done)),(by first|rfl|(simp;done)|(simp [*];done)),H',⟨Nat.le_refl _⟩,⟨by (with_reducible repeat (first|apply kN_|apply kD_|apply kA_));exact BK145.out⟩,⟨by repeat (first|(with_reducible first|exact HB.out|apply bA_|apply bN_|apply bD_|refine bS_ ?_ GE145.out)|exact HB.out)⟩⟩
      case round =>
       clear H';(try clear c1);(try clear p1);(try clear q1);(try clear hx1);(try clear qi1);(try clear c2);(try clear p2);(try clear c3);(try clear c3b0);(try clear c3b1);(try clear c7);(try clear c7b0);(try clear c7b1);(try clear c8);(try clear c8b0);(try clear hx146_0);(try clear hx146_1);(try clear hx146_2);(try clear hx147_0);(try clear hx147_1);(try clear hx147_2);(try clear p146);(try clear p147);(try clear p2);(try clear q146);(try clear q147);obtain ⟨x5_2,x7_2,rfl,rfl,HA,HK2,BK145,HB⟩:=hrel
       cases gk with
       | zero=>exact absurd HA.out (by simp [spec_l01Text.l1])
       | succ k2 =>
        have H:=HA.out;clear HA;simp only [spec_l01Text.l1] at H
        by_cases c9 : 0 < (l0.length : Int)
        ·
         rw [if_pos c9] at H;have c9b0 : decide (0 < (l0.length : Int)) = true:=decide_eq_true c9;have c9b1 : decide (0 < l0.length) = true:=decide_eq_true (by omega);clear c9
         by_cases c10 : x7_2 < ((rd_T25 l0 0).f0)
         ·
          rw [if_pos c10] at H;have c10b0 : decide (x7_2 < ((rd_T25 l0 0).f0)) = true:=decide_eq_true c10;clear c10
          by_cases c11 : 0≤x6_1
          ·
           rw [if_pos c11] at H;have c11b0 : decide (0≤x6_1) = true:=decide_eq_true c11;clear c11
           by_cases c12 : x6_1 < 12
           ·
            rw [if_pos c12] at H;have c12b0 : decide (x6_1 < 12) = true:=decide_eq_true c12;clear c12
            by_cases c14 : 0≤x7_2
            ·
             rw [if_pos c14] at H;have c14b0 : decide (0≤x7_2) = true:=decide_eq_true c14;clear c14
             by_cases c15 : x7_2 < 12
             ·
              rw [if_pos c15] at H;have c15b0 : decide (x7_2 < 12) = true:=decide_eq_true c15;clear c15
              by_cases c17 : x6_1 * 12 + x7_2 < (t143.length : Int)
              ·
               rw [if_pos c17] at H;have c17b0:=eq_true c17;have c17b1 : decide (x6_1 * 12 + x7_2 < (t143.length : Int)) = true:=decide_eq_true c17
               by_cases c18 : (rd t143 (x6_1 * 12 + x7_2)) = 0
               ·
                rw [if_pos c18] at H;have c18b0 : ((rd t143 (x6_1 * 12 + x7_2)) == 0) = true:=beq_iff_eq.mpr c18;have c18b1 : ((rd t143 (x6_1 * 12 + x7_2)) != 0) = false:=bne_eq_false_iff_eq.mpr c18;clear c18
                by_cases c19 : x5_2.size + 1≤9223372036854775807
                ·
                 rw [if_pos c19] at H;have c19b0:=eq_true c19;have c19b1 : decide (x5_2.size + 1≤9223372036854775807) = true:=decide_eq_true c19
                 try have c19b2 : (9223372036854775807 < x5_2.size + 1) = False:=eq_false (Nat.not_lt.2 c19)
                 have H':=am_ H;clear H;have p148 : 0≤(0 : Int):=(by omega)
                 have q148 : 0 < (l0.length : Int):=od_ (by first|(with_reducible assumption)|assumption);obtain ⟨ad148,A148_2,c148_2,e148,hx148_0,hx148_1,hx148_2,hl148_2,hi148_2⟩:=at_T25 HR0.out 0 p148 q148;obtain rfl : ad146 = ad148:=(by injection e148)
                 have qi148 : (0 < l0.length) = True:=eq_true (by omega);(try rw [show ((0 : Int)).toNat = 0 from rfl] at hx148_0);(try rw [show 0 * 3 = 0 from rfl] at hx148_0);(try rw [Addr.add_zero'] at hx148_0);(try rw [show ((0 : Int)).toNat = 0 from rfl] at hx148_1);(try rw [show 0 * 3 = 0 from rfl] at hx148_1);(try rw [Addr.add_zero'] at hx148_1);(try rw [show ((0 : Int)).toNat = 0 from rfl] at hx148_2);(try rw [show 0 * 3 = 0 from rfl] at hx148_2);(try rw [Addr.add_zero'] at hx148_2);replace hx148_0:=(HB.out.cell (bl_ w _ hx148_0)).trans hx148_0;replace hx148_1:=(HB.out.cell (bl_ w _ hx148_1)).trans hx148_1;replace hx148_2:=(HB.out.cell (bl_ w _ hx148_2)).trans hx148_2;have HR148_2:=am_ hi148_2;have HC148_2:=am_ hl148_2;clear hi148_2 hl148_2;replace p148:=eq_true p148;replace q148:=eq_true q148;have p149 : 0≤(0 : Int):=(by omega)
                 have q149 : 0 < (l0.length : Int):=od_ (by first|(with_reducible assumption)|assumption);obtain ⟨ad149,A149_2,c149_2,e149,hx149_0,hx149_1,hx149_2,hl149_2,hi149_2⟩:=at_T25 HR0.out 0 p149 q149;obtain rfl : ad146 = ad149:=(by injection e149)
                 have qi149 : (0 < l0.length) = True:=eq_true (by omega);(try rw [show ((0 : Int)).toNat = 0 from rfl] at hx149_0);(try rw [show 0 * 3 = 0 from rfl] at hx149_0);(try rw [Addr.add_zero'] at hx149_0);(try rw [show ((0 : Int)).toNat = 0 from rfl] at hx149_1);(try rw [show 0 * 3 = 0 from rfl] at hx149_1);(try rw [Addr.add_zero'] at hx149_1);(try rw [show ((0 : Int)).toNat = 0 from rfl] at hx149_2);(try rw [show 0 * 3 = 0 from rfl] at hx149_2);(try rw [Addr.add_zero'] at hx149_2);replace hx149_0:=(HB.out.cell (bl_ w _ hx149_0)).trans hx149_0;replace hx149_1:=(HB.out.cell (bl_ w _ hx149_1)).trans hx149_1;replace hx149_2:=(HB.out.cell (bl_ w _ hx149_2)).trans hx149_2;have HR149_2:=am_ hi149_2;have HC149_2:=am_ hl149_2;clear hi149_2 hl149_2;replace p149:=eq_true p149;replace q149:=eq_true q149;have ea_:=Option.some.inj (hx148_2.symm.trans hx149_2)
                 injection ea_ with ea_ en_ ec_
                 subst ea_;subst ec_;clear en_;have p13 : 0≤(x6_1 : Int):=od_ (by first|(with_reducible assumption)|assumption);have q13 : (x6_1 : Int) < (12 : Int):=od_ (by first|(with_reducible assumption)|assumption);replace p13:=eq_true p13;replace q13:=eq_true q13;have p16 : 0≤(x7_2 : Int):=od_ (by first|(with_reducible assumption)|assumption);have q16 : (x7_2 : Int) < (12 : Int):=od_ (by first|(with_reducible assumption)|assumption);replace p16:=eq_true p16;replace q16:=eq_true q16;have haz20 : wr.cell? ⟨gb145,x6_1.toNat * 12 + x7_2.toNat,none⟩ = some (.int .i64 (rd t143 (x6_1 * 12 + x7_2))):=arr_cell (by (with_reducible repeat (first|apply kN_|apply kD_|apply kA_));exact BK145.out) (x6_1 * 12 + x7_2) _ (by have h0_ : (0 : Int)≤x6_1:=od_ (by first|(with_reducible assumption)|assumption);have h1_ : (0 : Int)≤x7_2:=od_ (by first|(with_reducible assumption)|assumption);omega) (od_ (by first|(with_reducible assumption)|assumption))
                 go_wp2
                 go_roundg k2
                 case measure=>have:=HK1.out;have:=HK2.out;omega
                 case rel=>exact ⟨(x5_2 ++ (⟨#[46]⟩ : ByteArray)),(IntKind.i8.wrap (x7_2 + 1)),(by first|rfl|(simp;done)|(simp [*];done)),(by first|rfl|(simp;done)|(simp [*];done)),H',⟨by have:=HK1.out;have:=HK2.out;omega⟩,⟨by (with_reducible repeat (first|apply kN_|apply kD_|apply kA_));exact BK145.out⟩,⟨by repeat (first|(with_reducible first|exact HB.out|apply bA_|apply bN_|apply bD_|refine bS_ ?_ GE145.out)|exact HB.out)⟩⟩
                ·
                 rw [if_neg c19] at H;exact absurd H (by simp)
               ·
                rw [if_neg c18] at H;have c18b0 : ((rd t143 (x6_1 * 12 + x7_2)) == 0) = false:=beq_eq_false_iff_ne.mpr c18;have c18b1 : ((rd t143 (x6_1 * 12 + x7_2)) != 0) = true:=bne_iff_ne.mpr c18;replace H:=Option.bind_eq_some_iff.mp H;obtain ⟨t150,A230,H⟩:=H;replace H : ((some (([t150] : List Int) : List Int)).bind fun y151=>(if x5_2.size + (strOfNums y151).size≤9223372036854775807 then (spec_l01Text.l1 k2 l0 (x5_2 ++ (strOfNums y151)) x6_1 (IntKind.i8.wrap (x7_2 + 1)) t143) else (none))) = some r:=H;have A23:=am_ A230;clear A230;obtain ⟨y151,hy151⟩ : ∃ y_ : List Int,y_ = (([t150] : List Int)):=⟨_,rfl⟩
                replace H : (if x5_2.size + (strOfNums y151).size≤9223372036854775807 then (spec_l01Text.l1 k2 l0 (x5_2 ++ (strOfNums y151)) x6_1 (IntKind.i8.wrap (x7_2 + 1)) t143) else (none)) = some r:=by first|(rw [hy151];with_reducible exact H)|(have H2_:=(Option.bind_some _ _).symm.trans H;rw [hy151];with_reducible exact H2_)|(have H2_:=(Option.bind_some _ _).symm.trans H;with_reducible exact H2_)|with_reducible exact H|(rw [hy151];exact H)|exact H
                have Ny151:=am_ hy151;clear hy151
                by_cases c24 : x5_2.size + (strOfNums y151).size≤9223372036854775807
                ·
                 rw [if_pos c24] at H;have c24b0:=eq_true c24;have c24b1 : decide (x5_2.size + (strOfNums y151).size≤9223372036854775807) = true:=decide_eq_true c24
                 try have c24b2 : (9223372036854775807 < x5_2.size + (strOfNums y151).size) = False:=eq_false (Nat.not_lt.2 c24)
                 have H':=am_ H;clear H;have p148 : 0≤(0 : Int):=(by omega)
                 have q148 : 0 < (l0.length : Int):=od_ (by first|(with_reducible assumption)|assumption);obtain ⟨ad148,A148_2,c148_2,e148,hx148_0,hx148_1,hx148_2,hl148_2,hi148_2⟩:=at_T25 HR0.out 0 p148 q148;obtain rfl : ad146 = ad148:=(by injection e148)
                 have qi148 : (0 < l0.length) = True:=eq_true (by omega);(try rw [show ((0 : Int)).toNat = 0 from rfl] at hx148_0);(try rw [show 0 * 3 = 0 from rfl] at hx148_0);(try rw [Addr.add_zero'] at hx148_0);(try rw [show ((0 : Int)).toNat = 0 from rfl] at hx148_1);(try rw [show 0 * 3 = 0 from rfl] at hx148_1);(try rw [Addr.add_zero'] at hx148_1);(try rw [show ((0 : Int)).toNat = 0 from rfl] at hx148_2);(try rw [show 0 * 3 = 0 from rfl] at hx148_2);(try rw [Addr.add_zero'] at hx148_2);replace hx148_0:=(HB.out.cell (bl_ w _ hx148_0)).trans hx148_0;replace hx148_1:=(HB.out.cell (bl_ w _ hx148_1)).trans hx148_1;replace hx148_2:=(HB.out.cell (bl_ w _ hx148_2)).trans hx148_2;have HR148_2:=am_ hi148_2;have HC148_2:=am_ hl148_2;clear hi148_2 hl148_2;replace p148:=eq_true p148;replace q148:=eq_true q148;have p149 : 0≤(0 : Int):=(by omega)
                 have q149 : 0 < (l0.length : Int):=od_ (by first|(with_reducible assumption)|assumption);obtain ⟨ad149,A149_2,c149_2,e149,hx149_0,hx149_1,hx149_2,hl149_2,hi149_2⟩:=at_T25 HR0.out 0 p149 q149;obtain rfl : ad146 = ad149:=(by injection e149)
                 have qi149 : (0 < l0.length) = True:=eq_true (by omega);(try rw [show ((0 : Int)).toNat = 0 from rfl] at hx149_0);(try rw [show 0 * 3 = 0 from rfl] at hx149_0);(try rw [Addr.add_zero'] at hx149_0);(try rw [show ((0 : Int)).toNat = 0 from rfl] at hx149_1);(try rw [show 0 * 3 = 0 from rfl] at hx149_1);(try rw [Addr.add_zero'] at hx149_1);(try rw [show ((0 : Int)).toNat = 0 from rfl] at hx149_2);(try rw [show 0 * 3 = 0 from rfl] at hx149_2);(try rw [Addr.add_zero'] at hx149_2);replace hx149_0:=(HB.out.cell (bl_ w _ hx149_0)).trans hx149_0;replace hx149_1:=(HB.out.cell (bl_ w _ hx149_1)).trans hx149_1;replace hx149_2:=(HB.out.cell (bl_ w _ hx149_2)).trans hx149_2;have HR149_2:=am_ hi149_2;have HC149_2:=am_ hl149_2;clear hi149_2 hl149_2;replace p149:=eq_true p149;replace q149:=eq_true q149;have ea_:=Option.some.inj (hx148_2.symm.trans hx149_2)
                 injection ea_ with ea_ en_ ec_
                 subst ea_;subst ec_;clear en_;have p13 : 0≤(x6_1 : Int):=od_ (by first|(with_reducible assumption)|assumption);have q13 : (x6_1 : Int) < (12 : Int):=od_ (by first|(with_reducible assumption)|assumption);replace p13:=eq_true p13;replace q13:=eq_true q13;have p16 : 0≤(x7_2 : Int):=od_ (by first|(with_reducible assumption)|assumption);have q16 : (x7_2 : Int) < (12 : Int):=od_ (by first|(with_reducible assumption)|assumption);replace p16:=eq_true p16;replace q16:=eq_true q16;have haz25 : wr.cell? ⟨gb145,x6_1.toNat * 12 + x7_2.toNat,none⟩ = some (.int .i64 (rd t143 (x6_1 * 12 + x7_2))):=arr_cell (by (with_reducible repeat (first|apply kN_|apply kD_|apply kA_));exact BK145.out) (x6_1 * 12 + x7_2) _ (by have h0_ : (0 : Int)≤x6_1:=od_ (by first|(with_reducible assumption)|assumption);have h1_ : (0 : Int)≤x7_2:=od_ (by first|(with_reducible assumption)|assumption);omega) (od_ (by first|(with_reducible assumption)|assumption));have p21 : 0≤(x6_1 : Int):=od_ (by first|(with_reducible assumption)|assumption);have q21 : (x6_1 : Int) < (12 : Int):=od_ (by first|(with_reducible assumption)|assumption);replace p21:=eq_true p21;replace q21:=eq_true q21;have p22 : 0≤(x7_2 : Int):=od_ (by first|(with_reducible assumption)|assumption);have q22 : (x7_2 : Int) < (12 : Int):=od_ (by first|(with_reducible assumption)|assumption);replace p22:=eq_true p22;replace q22:=eq_true q22;have haz26 : wr.cell? ⟨gb145,x6_1.toNat * 12 + x7_2.toNat,none⟩ = some (.int .i64 (rd t143 (x6_1 * 12 + x7_2))):=arr_cell (by (with_reducible repeat (first|apply kN_|apply kD_|apply kA_));exact BK145.out) (x6_1 * 12 + x7_2) _ (by have h0_ : (0 : Int)≤x6_1:=od_ (by first|(with_reducible assumption)|assumption);have h1_ : (0 : Int)≤x7_2:=od_ (by first|(with_reducible assumption)|assumption);omega) (od_ (by first|(with_reducible assumption)|assumption))
                 go_wp2_with (first|((with_reducible refine gate_callee (f:=11) rfl ?_);refine goesL_ (some 44) rfl rfl Tryd.func11 (by kernel_rfl) rfl #[.int .i64 (wrap64 ((rd t143 (x6_1 * 12 + x7_2)) - 1))] rfl (by (try simp only [List.map_toArray,List.map_cons,List.map_nil]);first|done|rfl|(simp only [List.length_drop,List.length_take];rfl)) ?_;(with_reducible refine (spec_l01Letter.calls (wrap64 ((rd t143 (x6_1 * 12 + x7_2)) - 1)) t150 _ A23.out).mono ?_);rintro e w' ⟨rfl,⟨nd,rfl⟩⟩;refine ⟨_,rfl,?_⟩)|((with_reducible refine gate_dst (N:=45) rfl ?_);refine Kd.R_lit (Kd.int .u8) _ 5 ?hg (N:=45) ?hd (xs:=([t150] : List Int)) (inner:=[.int .u8 t150]) (ok:=fun _=>True) (okp:=fun _=>True) ?hr ?hp (fun _ hk=>hk) trivial (Below.refl _ _) (Nat.le_refl _) (by simp) ?_;(case hd=>rfl);(case hg=>rfl);(case hr=>first|(go_simp;done)|(go_simp;rfl));(case hp=>exact (Reps.one (show Kd.M (Kd.int .u8) _ _ _ t150 [.int .u8 t150] from rfl) (Reps.none _ _)));intro v152 w27 ho28 hb hg_ hnew_;clear hg_ hnew_;(first|rw [← Ny151.out] at ho28|(simp only [Int.reduceToNat] at ho28;rw [← Ny151.out] at ho28));have n0_:=am_ (Kd.R_lower ho28 (bZ_ (by repeat (first|(with_reducible first|exact HB.out|apply bA_|apply bN_|apply bD_|refine bS_ ?_ GE145.out)|exact HB.out))));have n1_:=am_ (kB_ (g:=gb145) (o:=.cells (arrC .i64 t143) 54 (0,0)) (by (with_reducible repeat (first|apply kN_|apply kD_|apply kA_));exact BK145.out) hb);have n2_:=am_ (bT_ (by repeat (first|(with_reducible first|exact HB.out|apply bA_|apply bN_|apply bD_|refine bS_ ?_ GE145.out)|exact HB.out)) hb);clear BK145;clear HB;have HO153:=n0_;have BK145:=n1_;have HB:=n2_;clear n0_ n1_ n2_;clear hb ho28;have hcv29:=own_string (P:=Tryd.prog) Tryd.underlying43 Tryd.underlying5 Tryd.underlying9 (Kd.own_of_R HO153.out)))
                 go_roundg k2
                 case measure=>have:=HK1.out;have:=HK2.out;omega
                 case rel=>exact ⟨(x5_2 ++ (strOfNums y151)),(IntKind.i8.wrap (x7_2 + 1)),(by first|rfl|(simp;done)|(simp [*];done)),(by first|rfl|(simp;done)|(simp [*];done)),H',⟨by have:=HK1.out;have:=HK2.out;omega⟩,⟨by (with_reducible repeat (first|apply kN_|apply kD_|apply kA_));exact BK145.out⟩,⟨by repeat (first|(with_reducible first|exact HB.out|apply bA_|apply bN_|apply bD_|refine bS_ ?_ GE145.out)|exact HB.out)⟩⟩
                ·
                 rw [if_neg c24] at H;exact absurd H (by simp)
              ·
               rw [if_neg c17] at H;exact absurd H (by simp)
             ·
              rw [if_neg c15] at H;exact absurd H (by simp)
            ·
             rw [if_neg c14] at H;exact absurd H (by simp)
           ·
            rw [if_neg c12] at H;exact absurd H (by simp)
          ·
           rw [if_neg c11] at H;exact absurd H (by simp)
         ·
          rw [if_neg c10] at H;have c10b0 : decide (x7_2 < ((rd_T25 l0 0).f0)) = false:=decide_eq_false c10;clear c10
          by_cases c30 : x5_2.size + 1≤9223372036854775807
          ·
           rw [if_pos c30] at H;have c30b0:=eq_true c30;have c30b1 : decide (x5_2.size + 1≤9223372036854775807) = true:=decide_eq_true c30
           try have c30b2 : (9223372036854775807 < x5_2.size + 1) = False:=eq_false (Nat.not_lt.2 c30)
           have H':=am_ H;clear H;have p148 : 0≤(0 : Int):=(by omega)
           have q148 : 0 < (l0.length : Int):=od_ (by first|(with_reducible assumption)|assumption);obtain ⟨ad148,A148_2,c148_2,e148,hx148_0,hx148_1,hx148_2,hl148_2,hi148_2⟩:=at_T25 HR0.out 0 p148 q148;obtain rfl : ad146 = ad148:=(by injection e148)
           have qi148 : (0 < l0.length) = True:=eq_true (by omega);(try rw [show ((0 : Int)).toNat = 0 from rfl] at hx148_0);(try rw [show 0 * 3 = 0 from rfl] at hx148_0);(try rw [Addr.add_zero'] at hx148_0);(try rw [show ((0 : Int)).toNat = 0 from rfl] at hx148_1);(try rw [show 0 * 3 = 0 from rfl] at hx148_1);(try rw [Addr.add_zero'] at hx148_1);(try rw [show ((0 : Int)).toNat = 0 from rfl] at hx148_2);(try rw [show 0 * 3 = 0 from rfl] at hx148_2);(try rw [Addr.add_zero'] at hx148_2);replace hx148_0:=(HB.out.cell (bl_ w _ hx148_0)).trans hx148_0;replace hx148_1:=(HB.out.cell (bl_ w _ hx148_1)).trans hx148_1;replace hx148_2:=(HB.out.cell (bl_ w _ hx148_2)).trans hx148_2;have HR148_2:=am_ hi148_2;have HC148_2:=am_ hl148_2;clear hi148_2 hl148_2;replace p148:=eq_true p148;replace q148:=eq_true q148;have p149 : 0≤(0 : Int):=(by omega)
           have q149 : 0 < (l0.length : Int):=od_ (by first|(with_reducible assumption)|assumption);obtain ⟨ad149,A149_2,c149_2,e149,hx149_0,hx149_1,hx149_2,hl149_2,hi149_2⟩:=at_T25 HR0.out 0 p149 q149;obtain rfl : ad146 = ad149:=(by injection e149)
           have qi149 : (0 < l0.length) = True:=eq_true (by omega);(try rw [show ((0 : Int)).toNat = 0 from rfl] at hx149_0);(try rw [show 0 * 3 = 0 from rfl] at hx149_0);(try rw [Addr.add_zero'] at hx149_0);(try rw [show ((0 : Int)).toNat = 0 from rfl] at hx149_1);(try rw [show 0 * 3 = 0 from rfl] at hx149_1);(try rw [Addr.add_zero'] at hx149_1);(try rw [show ((0 : Int)).toNat = 0 from rfl] at hx149_2);(try rw [show 0 * 3 = 0 from rfl] at hx149_2);(try rw [Addr.add_zero'] at hx149_2);replace hx149_0:=(HB.out.cell (bl_ w _ hx149_0)).trans hx149_0;replace hx149_1:=(HB.out.cell (bl_ w _ hx149_1)).trans hx149_1;replace hx149_2:=(HB.out.cell (bl_ w _ hx149_2)).trans hx149_2;have HR149_2:=am_ hi149_2;have HC149_2:=am_ hl149_2;clear hi149_2 hl149_2;replace p149:=eq_true p149;replace q149:=eq_true q149;have ea_:=Option.some.inj (hx148_2.symm.trans hx149_2)
           injection ea_ with ea_ en_ ec_
           subst ea_;subst ec_;clear en_
           go_wp2
           go_roundg k2
           case measure=>have:=HK1.out;have:=HK2.out;omega
           case rel=>exact ⟨(x5_2 ++ (⟨#[10]⟩ : ByteArray)),(IntKind.i8.wrap (x6_1 + 1)),(by first|rfl|(simp;done)|(simp [*];done)),(by first|rfl|(simp;done)|(simp [*];done)),H',⟨by have:=HK1.out;have:=HK2.out;omega⟩,⟨by (with_reducible repeat (first|apply kN_|apply kD_|apply kA_));exact BK145.out⟩,⟨by repeat (first|(with_reducible first|exact HB.out|apply bA_|apply bN_|apply bD_|refine bS_ ?_ GE145.out)|exact HB.out)⟩⟩
          ·
           rw [if_neg c30] at H;exact absurd H (by simp)
        ·
         rw [if_neg c9] at H;exact absurd H (by simp)
     ·
      rw [if_neg c8] at H;have c8b0 : decide (x6_1 < ((rd_T25 l0 0).f1)) = false:=decide_eq_false c8;clear c8;obtain rfl:=Option.some.inj H;have p146 : 0≤(0 : Int):=(by omega)
      have q146 : 0 < (l0.length : Int):=od_ (by first|(with_reducible assumption)|assumption);obtain ⟨ad146,A146_2,c146_2,e146,hx146_0,hx146_1,hx146_2,hl146_2,hi146_2⟩:=at_T25 HR0.out 0 p146 q146
      cases e146
      have qi146 : (0 < l0.length) = True:=eq_true (by omega);(try rw [show ((0 : Int)).toNat = 0 from rfl] at hx146_0);(try rw [show 0 * 3 = 0 from rfl] at hx146_0);(try rw [Addr.add_zero'] at hx146_0);(try rw [show ((0 : Int)).toNat = 0 from rfl] at hx146_1);(try rw [show 0 * 3 = 0 from rfl] at hx146_1);(try rw [Addr.add_zero'] at hx146_1);(try rw [show ((0 : Int)).toNat = 0 from rfl] at hx146_2);(try rw [show 0 * 3 = 0 from rfl] at hx146_2);(try rw [Addr.add_zero'] at hx146_2);replace hx146_0:=(HB.out.cell (bl_ w _ hx146_0)).trans hx146_0;replace hx146_1:=(HB.out.cell (bl_ w _ hx146_1)).trans hx146_1;replace hx146_2:=(HB.out.cell (bl_ w _ hx146_2)).trans hx146_2;have HR146_2:=am_ hi146_2;have HC146_2:=am_ hl146_2;clear hi146_2 hl146_2;replace p146:=eq_true p146;replace q146:=eq_true q146;have p147 : 0≤(0 : Int):=(by omega)
      have q147 : 0 < (l0.length : Int):=od_ (by first|(with_reducible assumption)|assumption);obtain ⟨ad147,A147_2,c147_2,e147,hx147_0,hx147_1,hx147_2,hl147_2,hi147_2⟩:=at_T25 HR0.out 0 p147 q147;obtain rfl : ad146 = ad147:=(by injection e147)
      have qi147 : (0 < l0.length) = True:=eq_true (by omega);(try rw [show ((0 : Int)).toNat = 0 from rfl] at hx147_0);(try rw [show 0 * 3 = 0 from rfl] at hx147_0);(try rw [Addr.add_zero'] at hx147_0);(try rw [show ((0 : Int)).toNat = 0 from rfl] at hx147_1);(try rw [show 0 * 3 = 0 from rfl] at hx147_1);(try rw [Addr.add_zero'] at hx147_1);(try rw [show ((0 : Int)).toNat = 0 from rfl] at hx147_2);(try rw [show 0 * 3 = 0 from rfl] at hx147_2);(try rw [Addr.add_zero'] at hx147_2);replace hx147_0:=(HB.out.cell (bl_ w _ hx147_0)).trans hx147_0;replace hx147_1:=(HB.out.cell (bl_ w _ hx147_1)).trans hx147_1;replace hx147_2:=(HB.out.cell (bl_ w _ hx147_2)).trans hx147_2;have HR147_2:=am_ hi147_2;have HC147_2:=am_ hl147_2;clear hi147_2 hl147_2;replace p147:=eq_true p147;replace q147:=eq_true q147;have ea_:=Option.some.inj (hx146_2.symm.trans hx147_2)
      injection ea_ with ea_ en_ ec_
      subst ea_;subst ec_;clear en_
      go_wp2
      go_ret
      exact ⟨by first|rfl|(simp [errW_none,errW_some] <;> rfl)|(simp [*,errW_none,errW_some] <;> rfl),by repeat (first|(with_reducible first|exact HB.out|apply bA_|apply bN_|apply bD_|refine bS_ ?_ GE145.out)|exact HB.out)⟩
    ·
     rw [if_neg c7] at H;exact absurd H (by simp)
 ·
  rw [if_neg c3] at H;exact absurd H (by simp)
end Go.Proofs.YteinapckfhpdkaaDoor.Q
