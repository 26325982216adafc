-- By a program of this session's: of the print's words what this claim needs. Lean checks it.
import Derived.Test.YtjadgmafgkoanaaXQ0
import Derived.Test.YtjadgmafgkoanaaXQ1
namespace Go.Proofs.Ytjadgmafgkoanaa.Q
open Go.RowKit Go.Proofs.YtjadgmafgkoanaaW.PrintWords Go.Proofs.YtjadgmafgkoanaaW.PrintLast Go.Proofs.YtjadgmafgkoanaaW.PrintMore
attribute [local go_sem] max2_int min2_int max_two min_two max_three min_three max_four min_four
set_option linter.unusedVariables false
set_option linter.unusedSimpArgs false
mutual
def spec_l01Sorted.l0 : Nat → List (S49) → List (S49) → Int → Option ((List (S49)))
 | 0,_,_,_=>none
 | k + 1,x0,x3,x4=>if x4 < (x0.length : Int) then (spec_l01Sorted.l1 k x0 x3 x4 (x3.length : Int)) else (some x3)
def spec_l01Sorted.l1 : Nat → List (S49) → List (S49) → Int → Int → Option ((List (S49)))
 | 0,_,_,_,_=>none
 | k + 1,x0,x3,x4,x5=>if x5 > 0 then (if 0≤x4 then (if x4 < (x0.length : Int) then (if 0≤(wrap64 (x5 - 1)) then (if (wrap64 (x5 - 1)) < (x3.length : Int) then ((spec_l01Before.f ((rd_T49 x0 x4).f0) ((rd_T49 x0 x4).f1) ((rd_T49 x0 x4).f2) ((rd_T49 x0 x4).f3) ((rd_T49 x3 (wrap64 (x5 - 1))).f0) ((rd_T49 x3 (wrap64 (x5 - 1))).f1) ((rd_T49 x3 (wrap64 (x5 - 1))).f2) ((rd_T49 x3 (wrap64 (x5 - 1))).f3)).bind fun t149=>(if t149 = true then (spec_l01Sorted.l1 k x0 x3 x4 (wrap64 (x5 - 1))) else ((some (([] : List (S49)) : List (S49))).bind fun y150=>(if 0≤x5 then (if x5≤(x3.length : Int) then ((some (x3.drop (x5 : Int).toNat : List (S49))).bind fun y153=>(if y150.length + y153.length < 35184372088832 then ((some (y150 ++ y153 : List (S49))).bind fun y157=>((some (x3.take (x5 : Int).toNat : List (S49))).bind fun y160=>(if y160.length < 35184372088832 then ((some (y160 ++ [(⟨(rd_T49 x0 x4).f0,(rd_T49 x0 x4).f1,(rd_T49 x0 x4).f2,(rd_T49 x0 x4).f3⟩ : S49)] : List (S49))).bind fun y164=>(if y164.length + y157.length < 35184372088832 then (spec_l01Sorted.l0 k x0 (y164 ++ y157) (wrap64 (x4 + 1))) else (none))) else (none)))) else (none))) else (none)) else (none))))) else (none)) else (none)) else (none)) else (none)) else ((some (([] : List (S49)) : List (S49))).bind fun y170=>(if 0≤x5 then (if x5≤(x3.length : Int) then ((some (x3.drop (x5 : Int).toNat : List (S49))).bind fun y173=>(if y170.length + y173.length < 35184372088832 then ((some (y170 ++ y173 : List (S49))).bind fun y177=>((some (x3.take (x5 : Int).toNat : List (S49))).bind fun y180=>(if 0≤x4 then (if x4 < (x0.length : Int) then (if y180.length < 35184372088832 then ((some (y180 ++ [(⟨(rd_T49 x0 x4).f0,(rd_T49 x0 x4).f1,(rd_T49 x0 x4).f2,(rd_T49 x0 x4).f3⟩ : S49)] : List (S49))).bind fun y184=>(if y184.length + y177.length < 35184372088832 then (spec_l01Sorted.l0 k x0 (y184 ++ y177) (wrap64 (x4 + 1))) else (none))) else (none)) else (none)) else (none)))) else (none))) else (none)) else (none)))
end
def spec_l01Sorted.f (k : Nat) (l0 : List (S49)) : Option ((List (S49))) := spec_l01Sorted.l0 k l0 (([] : List (S49))) 0
theorem spec_l01Sorted.mono_l : ∀ k, (∀ y0 y1 y2, LeO (spec_l01Sorted.l0 k y0 y1 y2) (spec_l01Sorted.l0 (k + 1) y0 y1 y2)) ∧ (∀ y0 y1 y2 y3, LeO (spec_l01Sorted.l1 k y0 y1 y2 y3) (spec_l01Sorted.l1 (k + 1) y0 y1 y2 y3))
 | 0=>⟨fun _ _ _ r h=>by simp [spec_l01Sorted.l0] at h,fun _ _ _ _ r h=>by simp [spec_l01Sorted.l1] at h⟩
 | k + 1=>by
  obtain ⟨ih0,ih1⟩:=spec_l01Sorted.mono_l k;refine ⟨?_,?_⟩
  ·
   intro y0 y1 y2
   unfold spec_l01Sorted.l0
   repeat' first
   | (with_reducible exact ih0 _ _ _)
   | (with_reducible exact ih1 _ _ _ _)
   | (with_reducible exact LeO.refl _)
   | (with_reducible exact LeO.none _)
   | (with_reducible refine LeO.ite ?_ ?_)
   | (with_reducible refine LeO.bind ?_ (fun _=>?_))
   | exact ih0 _ _ _
   | exact ih1 _ _ _ _
   | exact LeO.none _
   | refine LeO.ite ?_ ?_
   | refine LeO.bind ?_ (fun _=>?_)
  ·
   intro y0 y1 y2 y3
   unfold spec_l01Sorted.l1
   repeat' first
   | (with_reducible exact ih0 _ _ _)
   | (with_reducible exact ih1 _ _ _ _)
   | (with_reducible exact LeO.refl _)
   | (with_reducible exact LeO.none _)
   | (with_reducible refine LeO.ite ?_ ?_)
   | (with_reducible refine LeO.bind ?_ (fun _=>?_))
   | exact ih0 _ _ _
   | exact ih1 _ _ _ _
   | exact LeO.none _
   | refine LeO.ite ?_ ?_
   | refine LeO.bind ?_ (fun _=>?_)
theorem spec_l01Sorted.mono : ∀ a0 k, LeO (spec_l01Sorted.f k a0) (spec_l01Sorted.f (k + 1) a0) := by
 intro a0 k;obtain ⟨ih0,ih1⟩:=spec_l01Sorted.mono_l k
 unfold spec_l01Sorted.f
 repeat' first
   | (with_reducible exact ih0 _ _ _)
   | (with_reducible exact ih1 _ _ _ _)
   | (with_reducible exact LeO.refl _)
   | (with_reducible exact LeO.none _)
   | (with_reducible refine LeO.ite ?_ ?_)
   | (with_reducible refine LeO.bind ?_ (fun _=>?_))
   | exact ih0 _ _ _
   | exact ih1 _ _ _ _
   | exact LeO.none _
   | refine LeO.ite ?_ ?_
   | refine LeO.bind ?_ (fun _=>?_)
def spec_l01Sorted.T6 : Bool × List (List Nat × List Nat) := (true, [([], []), ([0], [0]), ([1], [1]), ([2], [2]), ([2], [2]), ([3, 4, 2], [2, 3, 4]), ([5, 2], [2, 5]), ([2], [2]), ([2], [2]), ([8, 2], [2, 8]), ([7, 9, 2], [2, 7, 9]), ([10, 2], [2, 10]), ([6, 11, 2, 2], [2, 6, 11]), ([2, 12], [2, 12])])
def spec_l01Sorted.B6 : List Nat := [0, 1, 3, 7, 7, 31, 63, 7, 7, 263, 903, 1927, 4095, 8191]
theorem spec_l01Sorted.tab6 : rtab .any (opsOf Try.f54 6) = spec_l01Sorted.T6 := by kernel_rfl
theorem spec_l01Sorted.bits6 : waitsOk spec_l01Sorted.T6.2 spec_l01Sorted.B6 = true := by kernel_rfl
def spec_l01Sorted.T9 : Bool × List (List Nat × List Nat) := (true, [([], []), ([], []), ([0, 1], [0, 1]), ([], []), ([], []), ([3, 4], [3, 4]), ([5], [5]), ([6], [6]), ([2, 7], [2, 7]), ([], []), ([8, 9, 8], [8, 9]), ([10, 10, 0, 1, 2, 3, 4, 5, 6, 7, 8, 9, 10], [0, 10])])
def spec_l01Sorted.B9 : List Nat := [0, 0, 3, 0, 0, 24, 56, 120, 255, 0, 1023, 2047]
theorem spec_l01Sorted.tab9 : rtab .any (opsOf Try.f54 9) = spec_l01Sorted.T9 := by kernel_rfl
theorem spec_l01Sorted.bits9 : waitsOk spec_l01Sorted.T9.2 spec_l01Sorted.B9 = true := by kernel_rfl
set_option maxHeartbeats 8000000 in
set_option maxRecDepth 100000 in
theorem spec_l01Sorted.calls (k : Nat) (A0 : Option Addr) (c0 : Nat) (l0 : List (S49)) (r : List (S49)) (w : World) (hr0 : Kd.C k49 w A0 l0.length l0) (hc0 : l0.length ≤ c0) (h : spec_l01Sorted.f k l0 = some r) :
  Calls Try.prog 54 #[.slice A0 l0.length c0] w fun e w'=>∃ v0_ : Value,e = .returned (v0_) ∧ Kd.R k49 49 w' w.heap.size (fun _=>True) v0_ r ∧ Below w.heap.size w w':=by
 have hu49:=Try.underlying49;have HR0:=am_ hr0;have HC0:=am_ hc0;clear hr0 hc0;have HB:=am_ (Below.refl w.heap.size w);have H : (spec_l01Sorted.l0 k l0 (([] : List (S49))) 0) = some r:=h;clear h;obtain ⟨y144,hy144⟩ : ∃ y_ : List (S49),y_ = (([] : List (S49))):=⟨_,rfl⟩
 replace H : (spec_l01Sorted.l0 k l0 y144 0) = some r:=by first|(rw [hy144];with_reducible exact H)|(have H2_:=(Option.bind_some _ _).symm.trans H;rw [hy144];with_reducible exact H2_)|(have H2_:=(Option.bind_some _ _).symm.trans H;with_reducible exact H2_)|with_reducible exact H|(rw [hy144];exact H)|exact H
 have Ny144:=am_ hy144;clear hy144;have H':=am_ H;clear H
 go_enter Try.func54,Try.ntmps54
 go_wp2_with (first|((with_reducible refine gate_dst (N:=7) rfl ?_);refine Kd.R_lit k49 _ 49 ?hg (N:=7) ?hd (xs:=([] : List (S49))) (inner:=[]) (ok:=fun _=>True) (okp:=fun _=>True) ?hr ?hp (fun _ hk=>hk) trivial (Below.refl _ _) (Nat.le_refl _) (by simp) ?_;(case hd=>rfl);(case hg=>rfl);(case hr=>first|(go_simp;done)|(go_simp;rfl));(case hp=>exact (Reps.none _ _));intro v145 w2 ho3 hb hg_ hnew_;clear hg_ hnew_;(first|rw [← Ny144.out] at ho3|(simp only [Int.reduceToNat] at ho3;rw [← Ny144.out] at ho3));have n0_:=am_ (Kd.R_lower ho3 (bZ_ HB.out));have n1_:=am_ (bT_ HB.out hb);clear HB;have HO146:=n0_;have HB:=n1_;clear n0_ n1_;clear hb ho3))
 go_loopg [3,4] k (fun kq v3 v4 w'=>∃ (x3_1 : List (S49)) (x4_1 : Int),v4 = .int .i64 x4_1 ∧ Aside0 (spec_l01Sorted.l0 kq l0 x3_1 x4_1 = some r) ∧ Aside0 (kq≤k) ∧ Aside0 (Kd.R k49 49 w' w.heap.size (fun _=>True) v3 x3_1) ∧ Aside0 (Below w.heap.size w w'))
 case atStart=>exact ⟨(y144),(0),(by first|rfl|(simp;done)|(simp [*];done)),H',⟨Nat.le_refl _⟩,⟨by (with_reducible repeat (first|apply Kd.R_alloc|apply Kd.R_drewN|apply Kd.R_drew));exact HO146.out⟩,⟨by repeat (first|(with_reducible first|exact HB.out|apply bA_|apply bN_|apply bD_)|exact HB.out)⟩⟩
 case round =>
  clear H';(try clear p2);obtain ⟨x3_1,x4_1,rfl,HA,HK1,HO_3,HB⟩:=hrel
  cases gk with
  | zero=>exact absurd HA.out (by simp [spec_l01Sorted.l0])
  | succ k1 =>
   have H:=HA.out;clear HA;simp only [spec_l01Sorted.l0] at H
   by_cases c4 : x4_1 < (l0.length : Int)
   ·
    rw [if_pos c4] at H;have c4b0 : decide (x4_1 < (l0.length : Int)) = true:=decide_eq_true c4;clear c4;have H':=am_ H;clear H;obtain ⟨Ao5,co5,eo5⟩:=Kd.R_slice HO_3.out;subst eo5
    go_wp2
    go_loopg [5] k1 (fun kq v5 w'=>∃ (x5_2 : Int),v5 = .int .i64 x5_2 ∧ Aside0 (spec_l01Sorted.l1 kq l0 x3_1 x4_1 x5_2 = some r) ∧ Aside0 (kq≤k1) ∧ Aside0 (Kd.R k49 49 w' w.heap.size (fun _=>True) (.slice Ao5 x3_1.length co5) x3_1) ∧ Aside0 (Below w.heap.size w w'))
    case atStart=>exact ⟨((x3_1.length : Int)),(by first|rfl|(simp;done)|(simp [*];done)),H',⟨Nat.le_refl _⟩,⟨by (with_reducible repeat (first|apply Kd.R_alloc|apply Kd.R_drewN|apply Kd.R_drew));exact HO_3.out⟩,⟨by repeat (first|(with_reducible first|exact HB.out|apply bA_|apply bN_|apply bD_)|exact HB.out)⟩⟩
    case round =>
     clear H';(try clear p2);(try clear c4);(try clear c4b0);(try clear c5);(try clear p2);obtain ⟨x5_2,rfl,HA,HK2,HO_3,HB⟩:=hrel
     cases gk with
     | zero=>exact absurd HA.out (by simp [spec_l01Sorted.l1])
     | succ k2 =>
      have H:=HA.out;clear HA;simp only [spec_l01Sorted.l1] at H
      by_cases c6 : x5_2 > 0
      ·
       rw [if_pos c6] at H;have c6b0 : decide (0 < x5_2) = true:=decide_eq_true c6;clear c6
       by_cases c7 : 0≤x4_1
       ·
        rw [if_pos c7] at H;have c7b0 : decide (0≤x4_1) = true:=decide_eq_true c7;clear c7
        by_cases c8 : x4_1 < (l0.length : Int)
        ·
         rw [if_pos c8] at H;have c8b0 : decide (x4_1 < (l0.length : Int)) = true:=decide_eq_true c8;clear c8;obtain ⟨ji9,hji9⟩ : ∃ j_ : Int,(wrap64 (x5_2 - 1)) = j_:=⟨_,rfl⟩
         replace H : (if 0≤(ji9) then (if (ji9) < (x3_1.length : Int) then ((spec_l01Before.f ((rd_T49 l0 x4_1).f0) ((rd_T49 l0 x4_1).f1) ((rd_T49 l0 x4_1).f2) ((rd_T49 l0 x4_1).f3) ((rd_T49 x3_1 (ji9)).f0) ((rd_T49 x3_1 (ji9)).f1) ((rd_T49 x3_1 (ji9)).f2) ((rd_T49 x3_1 (ji9)).f3)).bind fun t149=>(if t149 = true then (spec_l01Sorted.l1 k2 l0 x3_1 x4_1 ji9) else ((some (([] : List (S49)) : List (S49))).bind fun y150=>(if 0≤x5_2 then (if x5_2≤(x3_1.length : Int) then ((some (x3_1.drop (x5_2 : Int).toNat : List (S49))).bind fun y153=>(if y150.length + y153.length < 35184372088832 then ((some (y150 ++ y153 : List (S49))).bind fun y157=>((some (x3_1.take (x5_2 : Int).toNat : List (S49))).bind fun y160=>(if y160.length < 35184372088832 then ((some (y160 ++ [(⟨(rd_T49 l0 x4_1).f0,(rd_T49 l0 x4_1).f1,(rd_T49 l0 x4_1).f2,(rd_T49 l0 x4_1).f3⟩ : S49)] : List (S49))).bind fun y164=>(if y164.length + y157.length < 35184372088832 then (spec_l01Sorted.l0 k2 l0 (y164 ++ y157) (wrap64 (x4_1 + 1))) else (none))) else (none)))) else (none))) else (none)) else (none))))) else (none)) else (none)) = some r:=by first|(rw [hji9] at H;exact H)|(simp only [hji9] at H ⊢;exact H)
         have hji9w : (IntKind.i64.wrap (x5_2 - 1)) = ji9:=(i64_w _).trans hji9
         by_cases c10 : 0≤(ji9)
         ·
          rw [if_pos c10] at H;have c10b0 : decide (0≤(ji9)) = true:=decide_eq_true c10;clear c10
          by_cases c11 : (ji9) < (x3_1.length : Int)
          ·
           rw [if_pos c11] at H;have c11b0 : decide ((ji9) < (x3_1.length : Int)) = true:=decide_eq_true c11;clear c11;replace H:=Option.bind_eq_some_iff.mp H;obtain ⟨t149,A120,H⟩:=H;replace H : (if t149 = true then (spec_l01Sorted.l1 k2 l0 x3_1 x4_1 ji9) else ((some (([] : List (S49)) : List (S49))).bind fun y150=>(if 0≤x5_2 then (if x5_2≤(x3_1.length : Int) then ((some (x3_1.drop (x5_2 : Int).toNat : List (S49))).bind fun y153=>(if y150.length + y153.length < 35184372088832 then ((some (y150 ++ y153 : List (S49))).bind fun y157=>((some (x3_1.take (x5_2 : Int).toNat : List (S49))).bind fun y160=>(if y160.length < 35184372088832 then ((some (y160 ++ [(⟨(rd_T49 l0 x4_1).f0,(rd_T49 l0 x4_1).f1,(rd_T49 l0 x4_1).f2,(rd_T49 l0 x4_1).f3⟩ : S49)] : List (S49))).bind fun y164=>(if y164.length + y157.length < 35184372088832 then (spec_l01Sorted.l0 k2 l0 (y164 ++ y157) (wrap64 (x4_1 + 1))) else (none))) else (none)))) else (none))) else (none)) else (none)))) = some r:=H;have A12:=am_ A120;clear A120
           by_cases c13 : t149 = true
           ·
            subst c13;have H1 : (spec_l01Sorted.l1 k2 l0 x3_1 x4_1 ji9) = some r:=by rw [if_pos rfl] at H;exact H
            clear H;have H:=H1;clear H1;have H':=am_ H;clear H
            try go_wp2
            have n0_:=am_ (Kd.R_drew HO_3.out);have n1_:=am_ (bD_ HB.out);clear HO_3;clear HB;have HO_3:=n0_;have HB:=n1_;clear n0_ n1_;have p147 : 0≤(x4_1 : Int):=od_ (by first|(with_reducible assumption)|assumption);have q147 : x4_1 < (l0.length : Int):=od_ (by first|(with_reducible assumption)|assumption);obtain ⟨ad147,e147,hx147_0,hx147_1,hx147_2,hx147_3⟩:=at_T49 HR0.out x4_1 p147 q147;have hw147_3:=hx147_3;have hw147_2:=hx147_2;have hw147_1:=hx147_1;have hw147_0:=hx147_0
            cases e147
            replace hx147_0:=(HB.out.cell (bl_ w _ hx147_0)).trans hx147_0;replace hx147_1:=(HB.out.cell (bl_ w _ hx147_1)).trans hx147_1;replace hx147_2:=(HB.out.cell (bl_ w _ hx147_2)).trans hx147_2;replace hx147_3:=(HB.out.cell (bl_ w _ hx147_3)).trans hx147_3;replace p147:=eq_true p147;replace q147:=eq_true q147;have p148 : 0≤((ji9) : Int):=od_ (by first|(with_reducible assumption)|assumption);have q148 : (ji9) < (x3_1.length : Int):=od_ (by first|(with_reducible assumption)|assumption);obtain ⟨ad148,e148,hx148_0,hx148_1,hx148_2,hx148_3⟩:=at_T49 (Kd.R_reads' HO_3.out).2.2 (ji9) p148 q148
            cases e148
            replace p148:=eq_true p148;replace q148:=eq_true q148;refine start_ (n:=14) (S:=fun w'=>w'.cell? (ad147.add ((x4_1).toNat * 4)) = some (.int .i8 ((rd_T49 l0 x4_1).f0)) ∧ w'.cell? ⟨(ad147.add ((x4_1).toNat * 4)).block,(ad147.add ((x4_1).toNat * 4)).off + 1,none⟩ = some (.int .i8 ((rd_T49 l0 x4_1).f1)) ∧ w'.cell? ⟨(ad147.add ((x4_1).toNat * 4)).block,(ad147.add ((x4_1).toNat * 4)).off + 2,none⟩ = some (.int .i8 ((rd_T49 l0 x4_1).f2)) ∧ w'.cell? ⟨(ad147.add ((x4_1).toNat * 4)).block,(ad147.add ((x4_1).toNat * 4)).off + 3,none⟩ = some (.int .i8 ((rd_T49 l0 x4_1).f3)) ∧ w'.cell? (ad148.add (((ji9)).toNat * 4)) = some (.int .i8 ((rd_T49 x3_1 (ji9)).f0)) ∧ w'.cell? ⟨(ad148.add (((ji9)).toNat * 4)).block,(ad148.add (((ji9)).toNat * 4)).off + 1,none⟩ = some (.int .i8 ((rd_T49 x3_1 (ji9)).f1)) ∧ w'.cell? ⟨(ad148.add (((ji9)).toNat * 4)).block,(ad148.add (((ji9)).toNat * 4)).off + 2,none⟩ = some (.int .i8 ((rd_T49 x3_1 (ji9)).f2)) ∧ w'.cell? ⟨(ad148.add (((ji9)).toNat * 4)).block,(ad148.add (((ji9)).toNat * 4)).off + 3,none⟩ = some (.int .i8 ((rd_T49 x3_1 (ji9)).f3))) (ds:=[]) (mB_ 14 0) (by kernel_rfl) rfl rfl ⟨((HB.out.cell (bl_ w _ hw147_0)).trans hw147_0),((HB.out.cell (bl_ w _ hw147_1)).trans hw147_1),((HB.out.cell (bl_ w _ hw147_2)).trans hw147_2),((HB.out.cell (bl_ w _ hw147_3)).trans hw147_3),hx148_0,hx148_1,hx148_2,hx148_3⟩ (fun hHeld=>?_);refine with_tabW spec_l01Sorted.tab6 spec_l01Sorted.bits6 (fun HT_ HW_=>?_);generalize wr.drew = w14 at HO_3 HB hx147_0 hx147_1 hx147_2 hx147_3 hx148_0 hx148_1 hx148_2 hx148_3 hHeld ⊢;refine pure_ (i:=0) (N:=some 16) (v:=?_) (a':=?_) (mB_ 14 1) rfl rfl (any_of HT_.out (by kernel_rfl)) (fun _ _ _ h=>h) (Or.inl ⟨by rfl,?_⟩) ?_ ?_;rotate_left
            ·
             intro w'
             go_simp
             with_reducible rfl
            rotate_left
            ·
             simp only [Act.put,z1_,z2_,z3_,i64_w,i32_w]
             rfl
            refine pure_ (i:=1) (N:=some 17) (v:=?_) (a':=?_) (mB_ 14 3) rfl rfl (any_of HT_.out (by kernel_rfl)) (fun _ _ _ h=>h) (Or.inl ⟨by rfl,?_⟩) ?_ ?_;rotate_left
            ·
             intro w'
             go_simp
             with_reducible rfl
            rotate_left
            ·
             simp only [Act.put,z1_,z2_,z3_,i64_w,i32_w]
             rfl
            refine pure_ (i:=2) (N:=some 18) (v:=?_) (a':=?_) (mB_ 14 7) rfl rfl (any_of HT_.out (by kernel_rfl)) (fun _ _ _ h=>h) (Or.inl ⟨by rfl,?_⟩) ?_ ?_;rotate_left
            ·
             intro w'
             go_simp
             with_reducible rfl
            rotate_left
            ·
             simp only [Act.put,z1_,z2_,z3_,i64_w,i32_w]
             rfl
            refine pure_ (i:=3) (N:=some 19) (v:=?_) (a':=?_) (mB_ 14 15) rfl rfl (any_of HT_.out (by kernel_rfl)) (fun _ _ _ h=>h) (Or.inl ⟨by rfl,?_⟩) ?_ ?_;rotate_left
            ·
             intro w'
             go_simp
             with_reducible rfl
            rotate_left
            ·
             simp only [Act.put,z1_,z2_,z3_,i64_w,i32_w]
             rfl
            refine pure_ (i:=4) (N:=some 20) (v:=?_) (a':=?_) (mB_ 14 31) rfl rfl (any_of HT_.out (by kernel_rfl)) (fun _ _ _ h=>h) (Or.inl ⟨by rfl,?_⟩) ?_ ?_;rotate_left
            ·
             intro w'
             go_simp
             with_reducible rfl
            rotate_left
            ·
             simp only [Act.put,z1_,z2_,z3_,i64_w,i32_w]
             rfl
            refine pure_ (i:=5) (N:=some 21) (v:=?_) (a':=?_) (mB_ 14 63) rfl rfl (any_of HT_.out (by kernel_rfl)) (fun _ _ _ h=>h) (Or.inl ⟨by rfl,?_⟩) ?_ ?_;rotate_left
            ·
             intro w'
             go_simp
             with_reducible rfl
            rotate_left
            ·
             simp only [Act.put,z1_,z2_,z3_,i64_w,i32_w]
             rfl
            refine pure_ (i:=7) (N:=some 23) (v:=?_) (a':=?_) (mB_ 14 191) rfl rfl (any_of HT_.out (by kernel_rfl)) (fun _ _ _ h=>h) (Or.inl ⟨by rfl,?_⟩) ?_ ?_;rotate_left
            ·
             intro w'
             go_simp
             with_reducible rfl
            rotate_left
            ·
             simp only [Act.put,z1_,z2_,z3_,i64_w,i32_w]
             rfl
            refine pure_ (i:=8) (N:=some 24) (v:=?_) (a':=?_) (mB_ 14 447) rfl rfl (any_of HT_.out (by kernel_rfl)) (fun _ _ _ h=>h) (Or.inl ⟨by rfl,?_⟩) ?_ ?_;rotate_left
            ·
             intro w'
             go_simp
             with_reducible rfl
            rotate_left
            ·
             simp only [Act.put,z1_,z2_,z3_,i64_w,i32_w]
             rfl
            refine pure_ (i:=9) (N:=some 25) (v:=?_) (a':=?_) (mB_ 14 959) rfl rfl (any_of HT_.out (by kernel_rfl)) (fun _ _ _ h=>h) (Or.inl ⟨by rfl,?_⟩) ?_ ?_;rotate_left
            ·
             intro w'
             go_simp
             with_reducible rfl
            rotate_left
            ·
             simp only [Act.put,z1_,z2_,z3_,i64_w,i32_w]
             rfl
            refine pure_ (i:=10) (N:=some 26) (v:=?_) (a':=?_) (mB_ 14 1983) rfl rfl (any_of HT_.out (by kernel_rfl)) (fun _ _ _ h=>h) (Or.inl ⟨by rfl,?_⟩) ?_ ?_;rotate_left
            ·
             intro w'
             go_simp
             with_reducible rfl
            rotate_left
            ·
             simp only [Act.put,z1_,z2_,z3_,i64_w,i32_w]
             rfl
            refine take_ (i:=6) (N:=some 22) (v:=?_) (a':=?_) (mB_ 14 2047) rfl rfl (take_ofW HT_.out HW_.out (by kernel_rfl)) (fun _ _ _ h=>h) (Or.inl ⟨by rfl,?_⟩) hHeld ?_ ?_;rotate_left
            ·
             rintro w' ⟨s0,s1,s2,s3,s4,s5,s6,s7⟩
             go_simp
             with_reducible rfl
            rotate_left
            ·
             simp only [Act.put,z1_,z2_,z3_,i64_w,i32_w]
             rfl
            refine take_ (i:=11) (N:=some 27) (v:=?_) (a':=?_) (mB_ 14 4095) rfl rfl (take_ofW HT_.out HW_.out (by kernel_rfl)) (fun _ _ _ h=>h) (Or.inl ⟨by rfl,?_⟩) hHeld ?_ ?_;rotate_left
            ·
             rintro w' ⟨s0,s1,s2,s3,s4,s5,s6,s7⟩
             go_simp
             with_reducible rfl
            rotate_left
            ·
             simp only [Act.put,z1_,z2_,z3_,i64_w,i32_w]
             rfl
            refine one_ (i:=12) (N:=some 28) (mB_ 14 8191) rfl rfl (one_of HT_.out (by kernel_rfl)) (by decide) (fun K hK=>?_);refine goes_ Try.func86 (by kernel_rfl) rfl #[.agg #[.int .i8 ((rd_T49 l0 x4_1).f0),.int .i8 ((rd_T49 l0 x4_1).f1),.int .i8 ((rd_T49 l0 x4_1).f2),.int .i8 ((rd_T49 l0 x4_1).f3)],.agg #[.int .i8 ((rd_T49 x3_1 (ji9)).f0),.int .i8 ((rd_T49 x3_1 (ji9)).f1),.int .i8 ((rd_T49 x3_1 (ji9)).f2),.int .i8 ((rd_T49 x3_1 (ji9)).f3)]] (by rfl) rfl rfl (by (try simp only [List.map_toArray,List.map_cons,List.map_nil]);first|done|(simp only [hji9];rfl)|rfl|(simp only [List.length_drop,List.length_take];rfl)) ?_
            with_reducible refine (spec_l01Before.calls ((rd_T49 l0 x4_1).f0) ((rd_T49 l0 x4_1).f1) ((rd_T49 l0 x4_1).f2) ((rd_T49 l0 x4_1).f3) ((rd_T49 x3_1 (ji9)).f0) ((rd_T49 x3_1 (ji9)).f1) ((rd_T49 x3_1 (ji9)).f2) ((rd_T49 x3_1 (ji9)).f3) true _ A12.out).mono ?_
            rintro e w15 ⟨rfl,hb⟩;have HS4_:=(hb.cell (bl_ _ _ (hHeld.2.2.2.2.1))).trans (hHeld.2.2.2.2.1);have HS5_:=(hb.cell (bl_ _ _ (hHeld.2.2.2.2.2.1))).trans (hHeld.2.2.2.2.2.1);have HS6_:=(hb.cell (bl_ _ _ (hHeld.2.2.2.2.2.2.1))).trans (hHeld.2.2.2.2.2.2.1);have HS7_:=(hb.cell (bl_ _ _ (hHeld.2.2.2.2.2.2.2))).trans (hHeld.2.2.2.2.2.2.2);refine ⟨_,rfl,?_⟩;have n0_:=am_ (Kd.R_below HO_3.out hb);have n1_:=am_ (bT_ HB.out hb);clear HO_3;clear HB;have HO_3:=n0_;have HB:=n1_;clear n0_ n1_;(try clear hb);(try clear hb2);(try clear hk);(try clear hi);refine hK.out _ _ ⟨((HB.out.cell (bl_ w _ hw147_0)).trans hw147_0),((HB.out.cell (bl_ w _ hw147_1)).trans hw147_1),((HB.out.cell (bl_ w _ hw147_2)).trans hw147_2),((HB.out.cell (bl_ w _ hw147_3)).trans hw147_3),HS4_,HS5_,HS6_,HS7_⟩ (fun hHeld=>?_);clear hK K;refine norm_ (a':=?_) ?_ ?_;rotate_left
            ·
             show Act.put _ (some 28) _ = _
             simp only [Act.put,z1_,z2_,z3_,i64_w,i32_w]
             rfl
            refine pure_ (i:=13) (N:=some 29) (v:=?_) (a':=?_) (mB_ 14 16383) rfl rfl (any_of HT_.out (by kernel_rfl)) (fun _ _ _ h=>h) (Or.inl ⟨by rfl,?_⟩) ?_ ?_;rotate_left
            ·
             intro w'
             go_simp
             with_reducible rfl
            rotate_left
            ·
             simp only [Act.put,z1_,z2_,z3_,i64_w,i32_w]
             rfl
            refine done_ (done_of HT_.out (by kernel_rfl)) ?_
            try go_wp2
            go_roundg k2
            case measure=>have:=HK1.out;have:=HK2.out;omega
            case rel=>exact ⟨(ji9),(by first|rfl|(simp;done)|(simp only [← hji9] <;> (first|rfl|simp))|(simp [*];done)),H',⟨by have:=HK1.out;have:=HK2.out;omega⟩,⟨by (with_reducible repeat (first|apply Kd.R_alloc|apply Kd.R_drewN|apply Kd.R_drew));exact HO_3.out⟩,⟨by repeat (first|(with_reducible first|exact HB.out|apply bA_|apply bN_|apply bD_)|exact HB.out)⟩⟩
           ·
            replace c13:=Bool.eq_false_iff.mpr c13;subst c13;have H1 : ((some (([] : List (S49)) : List (S49))).bind fun y150=>(if 0≤x5_2 then (if x5_2≤(x3_1.length : Int) then ((some (x3_1.drop (x5_2 : Int).toNat : List (S49))).bind fun y153=>(if y150.length + y153.length < 35184372088832 then ((some (y150 ++ y153 : List (S49))).bind fun y157=>((some (x3_1.take (x5_2 : Int).toNat : List (S49))).bind fun y160=>(if y160.length < 35184372088832 then ((some (y160 ++ [(⟨(rd_T49 l0 x4_1).f0,(rd_T49 l0 x4_1).f1,(rd_T49 l0 x4_1).f2,(rd_T49 l0 x4_1).f3⟩ : S49)] : List (S49))).bind fun y164=>(if y164.length + y157.length < 35184372088832 then (spec_l01Sorted.l0 k2 l0 (y164 ++ y157) (wrap64 (x4_1 + 1))) else (none))) else (none)))) else (none))) else (none)) else (none))) = some r:=by rw [if_neg (show ¬ (false = true) by decide)] at H;exact H
            clear H;have H:=H1;clear H1;obtain ⟨y150,hy150⟩ : ∃ y_ : List (S49),y_ = (([] : List (S49))):=⟨_,rfl⟩
            replace H : (if 0≤x5_2 then (if x5_2≤(x3_1.length : Int) then ((some (x3_1.drop (x5_2 : Int).toNat : List (S49))).bind fun y153=>(if y150.length + y153.length < 35184372088832 then ((some (y150 ++ y153 : List (S49))).bind fun y157=>((some (x3_1.take (x5_2 : Int).toNat : List (S49))).bind fun y160=>(if y160.length < 35184372088832 then ((some (y160 ++ [(⟨(rd_T49 l0 x4_1).f0,(rd_T49 l0 x4_1).f1,(rd_T49 l0 x4_1).f2,(rd_T49 l0 x4_1).f3⟩ : S49)] : List (S49))).bind fun y164=>(if y164.length + y157.length < 35184372088832 then (spec_l01Sorted.l0 k2 l0 (y164 ++ y157) (wrap64 (x4_1 + 1))) else (none))) else (none)))) else (none))) else (none)) else (none)) = some r:=by first|(rw [hy150];with_reducible exact H)|(have H2_:=(Option.bind_some _ _).symm.trans H;rw [hy150];with_reducible exact H2_)|(have H2_:=(Option.bind_some _ _).symm.trans H;with_reducible exact H2_)|with_reducible exact H|(rw [hy150];exact H)|exact H
            have Ny150:=am_ hy150;clear hy150
            by_cases c16 : 0≤x5_2
            ·
             rw [if_pos c16] at H;have c16b0:=eq_true c16;have c16b1 : decide (0≤x5_2) = true:=decide_eq_true c16;clear c16
             by_cases c17 : x5_2≤(x3_1.length : Int)
             ·
              rw [if_pos c17] at H;have c17b0:=eq_true c17;have c17b1 : decide (x5_2≤(x3_1.length : Int)) = true:=decide_eq_true c17;clear c17;obtain ⟨y153,hy153⟩ : ∃ y_ : List (S49),y_ = (x3_1.drop (x5_2 : Int).toNat):=⟨_,rfl⟩
              replace H : (if y150.length + y153.length < 35184372088832 then ((some (y150 ++ y153 : List (S49))).bind fun y157=>((some (x3_1.take (x5_2 : Int).toNat : List (S49))).bind fun y160=>(if y160.length < 35184372088832 then ((some (y160 ++ [(⟨(rd_T49 l0 x4_1).f0,(rd_T49 l0 x4_1).f1,(rd_T49 l0 x4_1).f2,(rd_T49 l0 x4_1).f3⟩ : S49)] : List (S49))).bind fun y164=>(if y164.length + y157.length < 35184372088832 then (spec_l01Sorted.l0 k2 l0 (y164 ++ y157) (wrap64 (x4_1 + 1))) else (none))) else (none)))) else (none)) = some r:=by first|(rw [hy153];with_reducible exact H)|(have H2_:=(Option.bind_some _ _).symm.trans H;rw [hy153];with_reducible exact H2_)|(have H2_:=(Option.bind_some _ _).symm.trans H;with_reducible exact H2_)|with_reducible exact H|(rw [hy153];exact H)|exact H
              have Ny153:=am_ hy153;clear hy153
              by_cases c18 : y150.length + y153.length < 35184372088832
              ·
               rw [if_pos c18] at H;have LMc18:=am_ c18;clear c18;obtain ⟨y157,hy157⟩ : ∃ y_ : List (S49),y_ = (y150 ++ y153):=⟨_,rfl⟩
               replace H : ((some (x3_1.take (x5_2 : Int).toNat : List (S49))).bind fun y160=>(if y160.length < 35184372088832 then ((some (y160 ++ [(⟨(rd_T49 l0 x4_1).f0,(rd_T49 l0 x4_1).f1,(rd_T49 l0 x4_1).f2,(rd_T49 l0 x4_1).f3⟩ : S49)] : List (S49))).bind fun y164=>(if y164.length + y157.length < 35184372088832 then (spec_l01Sorted.l0 k2 l0 (y164 ++ y157) (wrap64 (x4_1 + 1))) else (none))) else (none))) = some r:=by first|(rw [hy157];with_reducible exact H)|(have H2_:=(Option.bind_some _ _).symm.trans H;rw [hy157];with_reducible exact H2_)|(have H2_:=(Option.bind_some _ _).symm.trans H;with_reducible exact H2_)|with_reducible exact H|(rw [hy157];exact H)|exact H
               have Ny157:=am_ hy157;clear hy157;have c19b0:=eq_true (od_ (by first|(with_reducible assumption)|assumption) : x5_2≤(x3_1.length : Int));obtain ⟨y160,hy160⟩ : ∃ y_ : List (S49),y_ = (x3_1.take (x5_2 : Int).toNat):=⟨_,rfl⟩
               replace H : (if y160.length < 35184372088832 then ((some (y160 ++ [(⟨(rd_T49 l0 x4_1).f0,(rd_T49 l0 x4_1).f1,(rd_T49 l0 x4_1).f2,(rd_T49 l0 x4_1).f3⟩ : S49)] : List (S49))).bind fun y164=>(if y164.length + y157.length < 35184372088832 then (spec_l01Sorted.l0 k2 l0 (y164 ++ y157) (wrap64 (x4_1 + 1))) else (none))) else (none)) = some r:=by first|(rw [hy160];with_reducible exact H)|(have H2_:=(Option.bind_some _ _).symm.trans H;rw [hy160];with_reducible exact H2_)|(have H2_:=(Option.bind_some _ _).symm.trans H;with_reducible exact H2_)|with_reducible exact H|(rw [hy160];exact H)|exact H
               have Ny160:=am_ hy160;clear hy160
               by_cases c20 : y160.length < 35184372088832
               ·
                rw [if_pos c20] at H;have LMc20:=am_ c20;clear c20;obtain ⟨y164,hy164⟩ : ∃ y_ : List (S49),y_ = (y160 ++ [(⟨(rd_T49 l0 x4_1).f0,(rd_T49 l0 x4_1).f1,(rd_T49 l0 x4_1).f2,(rd_T49 l0 x4_1).f3⟩ : S49)]):=⟨_,rfl⟩
                replace H : (if y164.length + y157.length < 35184372088832 then (spec_l01Sorted.l0 k2 l0 (y164 ++ y157) (wrap64 (x4_1 + 1))) else (none)) = some r:=by first|(rw [hy164];with_reducible exact H)|(have H2_:=(Option.bind_some _ _).symm.trans H;rw [hy164];with_reducible exact H2_)|(have H2_:=(Option.bind_some _ _).symm.trans H;with_reducible exact H2_)|with_reducible exact H|(rw [hy164];exact H)|exact H
                have Ny164:=am_ hy164;clear hy164
                by_cases c21 : y164.length + y157.length < 35184372088832
                ·
                 rw [if_pos c21] at H;have LMc21:=am_ c21;clear c21;obtain ⟨y167,hy167⟩ : ∃ y_ : List (S49),y_ = (y164 ++ y157):=⟨_,rfl⟩
                 replace H : (spec_l01Sorted.l0 k2 l0 y167 (wrap64 (x4_1 + 1))) = some r:=by first|(rw [hy167];with_reducible exact H)|(have H2_:=(Option.bind_some _ _).symm.trans H;rw [hy167];with_reducible exact H2_)|(have H2_:=(Option.bind_some _ _).symm.trans H;with_reducible exact H2_)|with_reducible exact H|(rw [hy167];exact H)|exact H
                 have Ny167:=am_ hy167;clear hy167;have H':=am_ H;clear H
                 try go_wp2
                 have n0_:=am_ (Kd.R_drew HO_3.out);have n1_:=am_ (bD_ HB.out);clear HO_3;clear HB;have HO_3:=n0_;have HB:=n1_;clear n0_ n1_;have p147 : 0≤(x4_1 : Int):=od_ (by first|(with_reducible assumption)|assumption);have q147 : x4_1 < (l0.length : Int):=od_ (by first|(with_reducible assumption)|assumption);obtain ⟨ad147,e147,hx147_0,hx147_1,hx147_2,hx147_3⟩:=at_T49 HR0.out x4_1 p147 q147;have hw147_3:=hx147_3;have hw147_2:=hx147_2;have hw147_1:=hx147_1;have hw147_0:=hx147_0
                 cases e147
                 replace hx147_0:=(HB.out.cell (bl_ w _ hx147_0)).trans hx147_0;replace hx147_1:=(HB.out.cell (bl_ w _ hx147_1)).trans hx147_1;replace hx147_2:=(HB.out.cell (bl_ w _ hx147_2)).trans hx147_2;replace hx147_3:=(HB.out.cell (bl_ w _ hx147_3)).trans hx147_3;replace p147:=eq_true p147;replace q147:=eq_true q147;have p148 : 0≤((ji9) : Int):=od_ (by first|(with_reducible assumption)|assumption);have q148 : (ji9) < (x3_1.length : Int):=od_ (by first|(with_reducible assumption)|assumption);obtain ⟨ad148,e148,hx148_0,hx148_1,hx148_2,hx148_3⟩:=at_T49 (Kd.R_reads' HO_3.out).2.2 (ji9) p148 q148
                 cases e148
                 replace p148:=eq_true p148;replace q148:=eq_true q148;refine start_ (n:=14) (S:=fun w'=>w'.cell? (ad147.add ((x4_1).toNat * 4)) = some (.int .i8 ((rd_T49 l0 x4_1).f0)) ∧ w'.cell? ⟨(ad147.add ((x4_1).toNat * 4)).block,(ad147.add ((x4_1).toNat * 4)).off + 1,none⟩ = some (.int .i8 ((rd_T49 l0 x4_1).f1)) ∧ w'.cell? ⟨(ad147.add ((x4_1).toNat * 4)).block,(ad147.add ((x4_1).toNat * 4)).off + 2,none⟩ = some (.int .i8 ((rd_T49 l0 x4_1).f2)) ∧ w'.cell? ⟨(ad147.add ((x4_1).toNat * 4)).block,(ad147.add ((x4_1).toNat * 4)).off + 3,none⟩ = some (.int .i8 ((rd_T49 l0 x4_1).f3)) ∧ w'.cell? (ad148.add (((ji9)).toNat * 4)) = some (.int .i8 ((rd_T49 x3_1 (ji9)).f0)) ∧ w'.cell? ⟨(ad148.add (((ji9)).toNat * 4)).block,(ad148.add (((ji9)).toNat * 4)).off + 1,none⟩ = some (.int .i8 ((rd_T49 x3_1 (ji9)).f1)) ∧ w'.cell? ⟨(ad148.add (((ji9)).toNat * 4)).block,(ad148.add (((ji9)).toNat * 4)).off + 2,none⟩ = some (.int .i8 ((rd_T49 x3_1 (ji9)).f2)) ∧ w'.cell? ⟨(ad148.add (((ji9)).toNat * 4)).block,(ad148.add (((ji9)).toNat * 4)).off + 3,none⟩ = some (.int .i8 ((rd_T49 x3_1 (ji9)).f3))) (ds:=[]) (mB_ 14 0) (by kernel_rfl) rfl rfl ⟨((HB.out.cell (bl_ w _ hw147_0)).trans hw147_0),((HB.out.cell (bl_ w _ hw147_1)).trans hw147_1),((HB.out.cell (bl_ w _ hw147_2)).trans hw147_2),((HB.out.cell (bl_ w _ hw147_3)).trans hw147_3),hx148_0,hx148_1,hx148_2,hx148_3⟩ (fun hHeld=>?_);refine with_tabW spec_l01Sorted.tab6 spec_l01Sorted.bits6 (fun HT_ HW_=>?_);generalize wr.drew = w22 at HO_3 HB hx147_0 hx147_1 hx147_2 hx147_3 hx148_0 hx148_1 hx148_2 hx148_3 hHeld ⊢;refine pure_ (i:=0) (N:=some 16) (v:=?_) (a':=?_) (mB_ 14 1) rfl rfl (any_of HT_.out (by kernel_rfl)) (fun _ _ _ h=>h) (Or.inl ⟨by rfl,?_⟩) ?_ ?_;rotate_left
                 ·
                  intro w'
                  go_simp
                  with_reducible rfl
                 rotate_left
                 ·
                  simp only [Act.put,z1_,z2_,z3_,i64_w,i32_w]
                  rfl
                 refine pure_ (i:=1) (N:=some 17) (v:=?_) (a':=?_) (mB_ 14 3) rfl rfl (any_of HT_.out (by kernel_rfl)) (fun _ _ _ h=>h) (Or.inl ⟨by rfl,?_⟩) ?_ ?_;rotate_left
                 ·
                  intro w'
                  go_simp
                  with_reducible rfl
                 rotate_left
                 ·
                  simp only [Act.put,z1_,z2_,z3_,i64_w,i32_w]
                  rfl
                 refine pure_ (i:=2) (N:=some 18) (v:=?_) (a':=?_) (mB_ 14 7) rfl rfl (any_of HT_.out (by kernel_rfl)) (fun _ _ _ h=>h) (Or.inl ⟨by rfl,?_⟩) ?_ ?_;rotate_left
                 ·
                  intro w'
                  go_simp
                  with_reducible rfl
                 rotate_left
                 ·
                  simp only [Act.put,z1_,z2_,z3_,i64_w,i32_w]
                  rfl
                 refine pure_ (i:=3) (N:=some 19) (v:=?_) (a':=?_) (mB_ 14 15) rfl rfl (any_of HT_.out (by kernel_rfl)) (fun _ _ _ h=>h) (Or.inl ⟨by rfl,?_⟩) ?_ ?_;rotate_left
                 ·
                  intro w'
                  go_simp
                  with_reducible rfl
                 rotate_left
                 ·
                  simp only [Act.put,z1_,z2_,z3_,i64_w,i32_w]
                  rfl
                 refine pure_ (i:=4) (N:=some 20) (v:=?_) (a':=?_) (mB_ 14 31) rfl rfl (any_of HT_.out (by kernel_rfl)) (fun _ _ _ h=>h) (Or.inl ⟨by rfl,?_⟩) ?_ ?_;rotate_left
                 ·
                  intro w'
                  go_simp
                  with_reducible rfl
                 rotate_left
                 ·
                  simp only [Act.put,z1_,z2_,z3_,i64_w,i32_w]
                  rfl
                 refine pure_ (i:=5) (N:=some 21) (v:=?_) (a':=?_) (mB_ 14 63) rfl rfl (any_of HT_.out (by kernel_rfl)) (fun _ _ _ h=>h) (Or.inl ⟨by rfl,?_⟩) ?_ ?_;rotate_left
                 ·
                  intro w'
                  go_simp
                  with_reducible rfl
                 rotate_left
                 ·
                  simp only [Act.put,z1_,z2_,z3_,i64_w,i32_w]
                  rfl
                 refine pure_ (i:=7) (N:=some 23) (v:=?_) (a':=?_) (mB_ 14 191) rfl rfl (any_of HT_.out (by kernel_rfl)) (fun _ _ _ h=>h) (Or.inl ⟨by rfl,?_⟩) ?_ ?_;rotate_left
                 ·
                  intro w'
                  go_simp
                  with_reducible rfl
                 rotate_left
                 ·
                  simp only [Act.put,z1_,z2_,z3_,i64_w,i32_w]
                  rfl
                 refine pure_ (i:=8) (N:=some 24) (v:=?_) (a':=?_) (mB_ 14 447) rfl rfl (any_of HT_.out (by kernel_rfl)) (fun _ _ _ h=>h) (Or.inl ⟨by rfl,?_⟩) ?_ ?_;rotate_left
                 ·
                  intro w'
                  go_simp
                  with_reducible rfl
                 rotate_left
                 ·
                  simp only [Act.put,z1_,z2_,z3_,i64_w,i32_w]
                  rfl
                 refine pure_ (i:=9) (N:=some 25) (v:=?_) (a':=?_) (mB_ 14 959) rfl rfl (any_of HT_.out (by kernel_rfl)) (fun _ _ _ h=>h) (Or.inl ⟨by rfl,?_⟩) ?_ ?_;rotate_left
                 ·
                  intro w'
                  go_simp
                  with_reducible rfl
                 rotate_left
                 ·
                  simp only [Act.put,z1_,z2_,z3_,i64_w,i32_w]
                  rfl
                 refine pure_ (i:=10) (N:=some 26) (v:=?_) (a':=?_) (mB_ 14 1983) rfl rfl (any_of HT_.out (by kernel_rfl)) (fun _ _ _ h=>h) (Or.inl ⟨by rfl,?_⟩) ?_ ?_;rotate_left
                 ·
                  intro w'
                  go_simp
                  with_reducible rfl
                 rotate_left
                 ·
                  simp only [Act.put,z1_,z2_,z3_,i64_w,i32_w]
                  rfl
                 refine take_ (i:=6) (N:=some 22) (v:=?_) (a':=?_) (mB_ 14 2047) rfl rfl (take_ofW HT_.out HW_.out (by kernel_rfl)) (fun _ _ _ h=>h) (Or.inl ⟨by rfl,?_⟩) hHeld ?_ ?_;rotate_left
                 ·
                  rintro w' ⟨s0,s1,s2,s3,s4,s5,s6,s7⟩
                  go_simp
                  with_reducible rfl
                 rotate_left
                 ·
                  simp only [Act.put,z1_,z2_,z3_,i64_w,i32_w]
                  rfl
                 refine take_ (i:=11) (N:=some 27) (v:=?_) (a':=?_) (mB_ 14 4095) rfl rfl (take_ofW HT_.out HW_.out (by kernel_rfl)) (fun _ _ _ h=>h) (Or.inl ⟨by rfl,?_⟩) hHeld ?_ ?_;rotate_left
                 ·
                  rintro w' ⟨s0,s1,s2,s3,s4,s5,s6,s7⟩
                  go_simp
                  with_reducible rfl
                 rotate_left
                 ·
                  simp only [Act.put,z1_,z2_,z3_,i64_w,i32_w]
                  rfl
                 refine one_ (i:=12) (N:=some 28) (mB_ 14 8191) rfl rfl (one_of HT_.out (by kernel_rfl)) (by decide) (fun K hK=>?_);refine goes_ Try.func86 (by kernel_rfl) rfl #[.agg #[.int .i8 ((rd_T49 l0 x4_1).f0),.int .i8 ((rd_T49 l0 x4_1).f1),.int .i8 ((rd_T49 l0 x4_1).f2),.int .i8 ((rd_T49 l0 x4_1).f3)],.agg #[.int .i8 ((rd_T49 x3_1 (ji9)).f0),.int .i8 ((rd_T49 x3_1 (ji9)).f1),.int .i8 ((rd_T49 x3_1 (ji9)).f2),.int .i8 ((rd_T49 x3_1 (ji9)).f3)]] (by rfl) rfl rfl (by (try simp only [List.map_toArray,List.map_cons,List.map_nil]);first|done|(simp only [hji9];rfl)|rfl|(simp only [List.length_drop,List.length_take];rfl)) ?_
                 with_reducible refine (spec_l01Before.calls ((rd_T49 l0 x4_1).f0) ((rd_T49 l0 x4_1).f1) ((rd_T49 l0 x4_1).f2) ((rd_T49 l0 x4_1).f3) ((rd_T49 x3_1 (ji9)).f0) ((rd_T49 x3_1 (ji9)).f1) ((rd_T49 x3_1 (ji9)).f2) ((rd_T49 x3_1 (ji9)).f3) false _ A12.out).mono ?_
                 rintro e w23 ⟨rfl,hb⟩;have HS4_:=(hb.cell (bl_ _ _ (hHeld.2.2.2.2.1))).trans (hHeld.2.2.2.2.1);have HS5_:=(hb.cell (bl_ _ _ (hHeld.2.2.2.2.2.1))).trans (hHeld.2.2.2.2.2.1);have HS6_:=(hb.cell (bl_ _ _ (hHeld.2.2.2.2.2.2.1))).trans (hHeld.2.2.2.2.2.2.1);have HS7_:=(hb.cell (bl_ _ _ (hHeld.2.2.2.2.2.2.2))).trans (hHeld.2.2.2.2.2.2.2);refine ⟨_,rfl,?_⟩;have n0_:=am_ (Kd.R_below HO_3.out hb);have n1_:=am_ (bT_ HB.out hb);clear HO_3;clear HB;have HO_3:=n0_;have HB:=n1_;clear n0_ n1_;(try clear hb);(try clear hb2);(try clear hk);(try clear hi);refine hK.out _ _ ⟨((HB.out.cell (bl_ w _ hw147_0)).trans hw147_0),((HB.out.cell (bl_ w _ hw147_1)).trans hw147_1),((HB.out.cell (bl_ w _ hw147_2)).trans hw147_2),((HB.out.cell (bl_ w _ hw147_3)).trans hw147_3),HS4_,HS5_,HS6_,HS7_⟩ (fun hHeld=>?_);clear hK K;refine norm_ (a':=?_) ?_ ?_;rotate_left
                 ·
                  show Act.put _ (some 28) _ = _
                  simp only [Act.put,z1_,z2_,z3_,i64_w,i32_w]
                  rfl
                 refine pure_ (i:=13) (N:=some 29) (v:=?_) (a':=?_) (mB_ 14 16383) rfl rfl (any_of HT_.out (by kernel_rfl)) (fun _ _ _ h=>h) (Or.inl ⟨by rfl,?_⟩) ?_ ?_;rotate_left
                 ·
                  intro w'
                  go_simp
                  with_reducible rfl
                 rotate_left
                 ·
                  simp only [Act.put,z1_,z2_,z3_,i64_w,i32_w]
                  rfl
                 refine done_ (done_of HT_.out (by kernel_rfl)) ?_
                 try go_wp2_with (first|((with_reducible refine gate_dst (N:=32) rfl ?_);refine Kd.R_lit k49 _ 49 ?hg (N:=32) ?hd (xs:=([] : List (S49))) (inner:=[]) (ok:=fun _=>True) (okp:=fun _=>True) ?hr ?hp (fun _ hk=>hk) trivial (Below.refl _ _) (Nat.le_refl _) (by simp) ?_;(case hd=>rfl);(case hg=>rfl);(case hr=>first|(go_simp;done)|(go_simp;rfl));(case hp=>exact (Reps.none _ _));intro v151 w24 ho25 hb hg_ hnew_;clear hg_ hnew_;(first|rw [← Ny150.out] at ho25|(simp only [Int.reduceToNat] at ho25;rw [← Ny150.out] at ho25));have n0_:=am_ (Kd.R_elder' HO_3.out (Kd.R_base ho25) hb);have n1_:=am_ (Kd.R_lower (Kd.R_new' ho25 (Kd.R_lt HO_3.out)) (bZ_ HB.out));have n2_:=am_ (bT_ HB.out hb);clear HO_3;clear HB;have HO_3:=n0_;have HO152:=n1_;have HB:=n2_;clear n0_ n1_ n2_;clear hb ho25;have q26 : (x5_2 : Int)≤((x3_1.length : Int) : Int):=od_ (by first|(with_reducible assumption)|assumption);obtain ⟨i026,hi026,_,hsz26,_⟩:=info_parts info49;have hroom26 : x3_1.length≤co5:=(Kd.R_reads' HO_3.out).2.1;have hC26 : Kd.C k49 _ (some ad148) x3_1.length x3_1:=(Kd.R_reads' HO_3.out).2.2;have q026 : (0 : Int)≤(x5_2 : Int):=od_ (by first|(with_reducible assumption)|assumption);have hcut26:=cut_from (P:=Try.prog) 27 49 .i64 Try.underlying27 hi026 4 hsz26 (some ad148) x3_1.length co5 x5_2 q026 q26;have hr26:=Kd.C_drop (m:=(x5_2 : Int).toNat) (c:=co5) hC26 (by omega) hroom26;obtain ⟨A26,hA26⟩ : ∃ A1,A1 = (if co5 = (x5_2 : Int).toNat then (some ad148) else ((some ad148) : Option Addr).map (·.add ((x5_2 : Int).toNat * 4))):=⟨_,rfl⟩;obtain ⟨c26,hc26⟩ : ∃ c1,c1 = co5 - (x5_2 : Int).toNat:=⟨_,rfl⟩;have hy26 : y153.length = x3_1.length - (x5_2 : Int).toNat:=(by rw [Ny153.out,List.length_drop] <;> omega);rw [show (x3_1).drop (x5_2 : Int).toNat = y153 from Ny153.out.symm] at hr26;replace hr26 : Kd.C k49 _ A26 y153.length y153:=(by rw [hA26];exact hr26);rw [← hy26,← hA26,← hc26] at hcut26;have HR156:=am_ hr26;have HC156:=am_ (show y153.length≤c26 from by rw [hy26,hc26];exact Nat.sub_le_sub_right hroom26 _);clear hr26 hC26 hroom26 hi026 hsz26 hc26;have KY26:=am_ hy26;have KA26:=am_ hA26;clear hy26 hA26;have KL26:=am_ (show (x5_2 : Int).toNat≤x3_1.length from by omega);replace q26:=eq_true q26)|((with_reducible refine gate_builtin (b:=.append) (xs:=#[.tmp 32,.tmp 35]) rfl ?_);at_builtin;refine Kd.R_append_rows k49 (w0:=w) w.heap.size rfl (.tmp 32) (.tmp 35) 27 49 (.agg #[(.int .i8 0),(.int .i8 0),(.int .i8 0),(.int .i8 0)]) 4 rfl Try.underlying27 info49 rfl (by decide) (by omega) v151 y150 y153 _ _ _ (fun k_=>some k_ ≠ (.slice (some ad148) x3_1.length co5 : Value).ownBlock) (fun _=>False) rfl rfl ?aO ?aR (fun _ _ h=>h) (fun _ h=>h.elim) ?aF ?aB ?aS ?aL ?_;(case aR=>repeat (first|exact (by repeat (first|(with_reducible exact HR156.out)|(with_reducible refine Kd.C_alloc ?_ _)|(with_reducible refine Kd.C_drewN ?_ _)|(with_reducible refine Kd.C_drew ?_)|exact HR156.out))|(with_reducible refine Kd.C_alloc ?_ _)|(with_reducible refine Kd.C_drewN ?_ _)|(with_reducible refine Kd.C_drew ?_)));(case aB=>exact HB.out);(case aF=>exact (fun k_ hk=>Kd.fresh' (Kd.R_lt HO_3.out) k_ hk));(case aO=>exact (rM_ HO152.out (fun _ hk=>hk.2)));(case aS=>exact (bZ_ HB.out));(case aL=>have:=LMc18.out;omega);intro v158 w27 ho hb hg hat;rw [← Ny157.out] at ho;have n0_:=am_ (Kd.R_after (ok:=(fun _=>True)) HO_3.out hg hat);have n1_:=am_ (hb);have n2_:=am_ ((show Kd.C k49 w27 A26 y153.length y153 from by rw [Ny153.out,KA26.out];exact Kd.C_drop (m:=(x5_2 : Int).toNat) (c:=co5) ((Kd.R_reads' (Kd.R_after (ok:=(fun _=>True)) HO_3.out hg hat)).2.2) KL26.out ((Kd.R_reads' (Kd.R_after (ok:=(fun _=>True)) HO_3.out hg hat)).2.1)));have n3_:=am_ (ho);clear HO_3;clear HB;clear HR156;clear HO152;have HO_3:=n0_;have HB:=n1_;have HR156:=n2_;have HO159:=n3_;clear n0_ n1_ n2_ n3_;clear ho hb hg hat))
                 have n0_:=am_ (Kd.R_drew HO_3.out);have n1_:=am_ (Kd.R_drew HO159.out);have n2_:=am_ (Kd.C_drew HR156.out);have n3_:=am_ (bD_ HB.out);clear HO_3;clear HO159;clear HR156;clear HB;have HO_3:=n0_;have HO159:=n1_;have HR156:=n2_;have HB:=n3_;clear n0_ n1_ n2_ n3_;have q29 : (x5_2 : Int)≤((x3_1.length : Int) : Int):=od_ (by first|(with_reducible assumption)|assumption);obtain ⟨i029,hi029,_,hsz29,_⟩:=info_parts info49;have hcut29:=cut_to (P:=Try.prog) 27 49 .i64 Try.underlying27 hi029 (some ad148) x3_1.length co5 x5_2 (od_ (by first|(with_reducible assumption)|assumption)) q29 (Kd.R_reads' HO_3.out).2.1;have hr29:=Kd.R_take (m:=(x5_2 : Int).toNat) HO_3.out (by omega);have hy29 : y160.length = (x5_2 : Int).toNat:=(by rw [Ny160.out,List.length_take];omega)
                 rw [← Ny160.out] at hr29;rw [← hy29] at hr29 hcut29;clear hy29 hi029 hsz29 HO_3;have HO162:=am_ hr29;clear hr29;replace q29:=eq_true q29;have p163 : 0≤(x4_1 : Int):=od_ (by first|(with_reducible assumption)|assumption);have q163 : x4_1 < (l0.length : Int):=od_ (by first|(with_reducible assumption)|assumption);obtain ⟨ad163,e163,hx163_0,hx163_1,hx163_2,hx163_3⟩:=at_T49 HR0.out x4_1 p163 q163;have hw163_3:=hx163_3;have hw163_2:=hx163_2;have hw163_1:=hx163_1;have hw163_0:=hx163_0;obtain rfl : ad147 = ad163:=(by injection e163)
                 replace hx163_0:=(HB.out.cell (bl_ w _ hx163_0)).trans hx163_0;replace hx163_1:=(HB.out.cell (bl_ w _ hx163_1)).trans hx163_1;replace hx163_2:=(HB.out.cell (bl_ w _ hx163_2)).trans hx163_2;replace hx163_3:=(HB.out.cell (bl_ w _ hx163_3)).trans hx163_3;replace p163:=eq_true p163;replace q163:=eq_true q163;refine start_ (n:=12) (S:=fun w'=>w'.cell? (ad147.add ((x4_1).toNat * 4)) = some (.int .i8 ((rd_T49 l0 x4_1).f0)) ∧ w'.cell? ⟨(ad147.add ((x4_1).toNat * 4)).block,(ad147.add ((x4_1).toNat * 4)).off + 1,none⟩ = some (.int .i8 ((rd_T49 l0 x4_1).f1)) ∧ w'.cell? ⟨(ad147.add ((x4_1).toNat * 4)).block,(ad147.add ((x4_1).toNat * 4)).off + 2,none⟩ = some (.int .i8 ((rd_T49 l0 x4_1).f2)) ∧ w'.cell? ⟨(ad147.add ((x4_1).toNat * 4)).block,(ad147.add ((x4_1).toNat * 4)).off + 3,none⟩ = some (.int .i8 ((rd_T49 l0 x4_1).f3))) (ds:=[]) (mB_ 12 0) (by kernel_rfl) rfl rfl ⟨((HB.out.cell (bl_ w _ hw163_0)).trans hw163_0),((HB.out.cell (bl_ w _ hw163_1)).trans hw163_1),((HB.out.cell (bl_ w _ hw163_2)).trans hw163_2),((HB.out.cell (bl_ w _ hw163_3)).trans hw163_3)⟩ (fun hHeld=>?_);refine with_tabW spec_l01Sorted.tab9 spec_l01Sorted.bits9 (fun HT_ HW_=>?_);generalize w27.drew = w28 at HO_3 HO159 HR156 HB HO162 hx163_0 hx163_1 hx163_2 hx163_3 hHeld ⊢;refine pure_ (i:=0) (N:=some 37) (v:=?_) (a':=?_) (mB_ 12 1) rfl rfl (any_of HT_.out (by kernel_rfl)) (fun _ _ _ h=>h) (Or.inl ⟨by rfl,?_⟩) ?_ ?_;rotate_left
                 ·
                  intro w'
                  go_simp
                  with_reducible rfl
                 rotate_left
                 ·
                  simp only [Act.put,z1_,z2_,z3_,i64_w,i32_w]
                  rfl
                 refine pure_ (i:=1) (N:=some 38) (v:=?_) (a':=?_) (mB_ 12 3) rfl rfl (any_of HT_.out (by kernel_rfl)) (fun _ _ _ h=>h) (Or.inl ⟨by rfl,?_⟩) ?_ ?_;rotate_left
                 ·
                  intro w'
                  go_simp
                  with_reducible rfl
                 rotate_left
                 ·
                  simp only [Act.put,z1_,z2_,z3_,i64_w,i32_w]
                  rfl
                 refine pure_ (i:=2) (N:=some 39) (v:=?_) (a':=?_) (mB_ 12 7) rfl rfl (any_of HT_.out (by kernel_rfl)) (fun _ _ _ h=>h) (Or.inl ⟨by rfl,?_⟩) ?_ ?_;rotate_left
                 ·
                  intro w'
                  go_simp
                  with_reducible rfl
                 rotate_left
                 ·
                  simp only [Act.put,z1_,z2_,z3_,i64_w,i32_w]
                  rfl
                 refine pure_ (i:=3) (N:=some 40) (v:=?_) (a':=?_) (mB_ 12 15) rfl rfl (any_of HT_.out (by kernel_rfl)) (fun _ _ _ h=>h) (Or.inl ⟨by rfl,?_⟩) ?_ ?_;rotate_left
                 ·
                  intro w'
                  go_simp
                  with_reducible rfl
                 rotate_left
                 ·
                  simp only [Act.put,z1_,z2_,z3_,i64_w,i32_w]
                  rfl
                 refine pure_ (i:=4) (N:=some 41) (v:=?_) (a':=?_) (mB_ 12 31) rfl rfl (any_of HT_.out (by kernel_rfl)) (fun _ _ _ h=>h) (Or.inl ⟨by rfl,?_⟩) ?_ ?_;rotate_left
                 ·
                  intro w'
                  go_simp
                  with_reducible rfl
                 rotate_left
                 ·
                  simp only [Act.put,z1_,z2_,z3_,i64_w,i32_w]
                  rfl
                 refine pure_ (i:=5) (N:=some 42) (v:=?_) (a':=?_) (mB_ 12 63) rfl rfl (any_of HT_.out (by kernel_rfl)) (fun _ _ _ h=>h) (Or.inl ⟨by rfl,?_⟩) ?_ ?_;rotate_left
                 ·
                  intro w'
                  go_simp
                  with_reducible rfl
                 rotate_left
                 ·
                  simp only [Act.put,z1_,z2_,z3_,i64_w,i32_w]
                  rfl
                 refine pure_ (i:=9) (N:=some 46) (v:=?_) (a':=?_) (mB_ 12 575) rfl rfl (any_of HT_.out (by kernel_rfl)) (fun _ _ _ h=>h) (Or.inl ⟨by rfl,?_⟩) ?_ ?_;rotate_left
                 ·
                  intro w'
                  go_simp
                  with_reducible rfl
                 rotate_left
                 ·
                  simp only [Act.put,z1_,z2_,z3_,i64_w,i32_w]
                  rfl
                 refine take_ (i:=6) (N:=some 43) (v:=?_) (a':=?_) (mB_ 12 639) rfl rfl (take_ofW HT_.out HW_.out (by kernel_rfl)) (fun _ _ _ h=>h) (Or.inl ⟨by rfl,?_⟩) hHeld ?_ ?_;rotate_left
                 ·
                  rintro w' ⟨s0,s1,s2,s3⟩
                  go_simp
                  with_reducible rfl
                 rotate_left
                 ·
                  simp only [Act.put,z1_,z2_,z3_,i64_w,i32_w]
                  rfl
                 refine one_ (i:=7) (N:=some 44) (mB_ 12 767) rfl rfl (one_of HT_.out (by kernel_rfl)) (by decide) (fun K hK=>?_);refine value_ (w1:=?_) (v:=?_) (by rfl) rfl ?_ ?_;rotate_left 2
                 ·
                  go_simp
                  constructor
                  · rfl
                  · rfl
                 refine hK.out _ _ ⟨(World.cell?_alloc_lt _ _ _ (bl_ _ _ (((HB.out.cell (bl_ w _ hw163_0)).trans hw163_0)))).trans (((HB.out.cell (bl_ w _ hw163_0)).trans hw163_0)),(World.cell?_alloc_lt _ _ _ (bl_ _ _ (((HB.out.cell (bl_ w _ hw163_1)).trans hw163_1)))).trans (((HB.out.cell (bl_ w _ hw163_1)).trans hw163_1)),(World.cell?_alloc_lt _ _ _ (bl_ _ _ (((HB.out.cell (bl_ w _ hw163_2)).trans hw163_2)))).trans (((HB.out.cell (bl_ w _ hw163_2)).trans hw163_2)),(World.cell?_alloc_lt _ _ _ (bl_ _ _ (((HB.out.cell (bl_ w _ hw163_3)).trans hw163_3)))).trans (((HB.out.cell (bl_ w _ hw163_3)).trans hw163_3))⟩ (fun hHeld=>?_);clear hK K;refine norm_ (a':=?_) ?_ ?_;rotate_left
                 ·
                  show Act.put _ (some 44) _ = _
                  simp only [Act.put,z1_,z2_,z3_,i64_w,i32_w]
                  rfl
                 refine one_ (i:=8) (N:=some 45) (mB_ 12 1023) rfl rfl (one_of HT_.out (by kernel_rfl)) (by decide) (fun K hK=>?_);refine Kd.R_append_step k49 (w0:=w) w.heap.size (by rfl) (.tmp 39) (.tmp 44) 27 49 (.agg #[(.int .i8 0),(.int .i8 0),(.int .i8 0),(.int .i8 0)]) 4 rfl Try.underlying27 info49 rfl (by decide) (by omega) (.slice (some ad148) y160.length co5) y160 (⟨(rd_T49 l0 x4_1).f0,(rd_T49 l0 x4_1).f1,(rd_T49 l0 x4_1).f2,(rd_T49 l0 x4_1).f3⟩ : S49) [.int .i8 ((rd_T49 l0 x4_1).f0),.int .i8 ((rd_T49 l0 x4_1).f1),.int .i8 ((rd_T49 l0 x4_1).f2),.int .i8 ((rd_T49 l0 x4_1).f3)] (fun k_=>some k_ ≠ (v158 : Value).ownBlock) (fun _=>False) rfl rfl ?aP (fun _ hk=>hk.elim) ?aF ?aO ?aB ?aS ?aL ?_
                 (case aP=>exact k49_mkM _ _ _ (⟨(rd_T49 l0 x4_1).f0,(rd_T49 l0 x4_1).f1,(rd_T49 l0 x4_1).f2,(rd_T49 l0 x4_1).f3⟩ : S49))
                 (case aB=>exact HB.out)
                 (case aF=>exact (fun k_ hk=>Kd.fresh' (Kd.R_lt HO159.out) k_ hk))
                 (case aO=>exact (rM_ HO162.out (fun _ hk=>hk.2)))
                 (case aS=>exact (bZ_ HB.out))
                 (case aL=>have:=LMc20.out;omega)
                 intro v165 w30 ho hb hg hat;rw [← Ny164.out] at ho;have n0_:=am_ (Kd.R_after (ok:=(fun _=>True)) (rM_ HO159.out (fun _ hk=>⟨trivial,by first|exact hk|exact fun e_=>hk (e_.trans (own_len_ _ _ _ _ _))⟩)) hg hat);have n1_:=am_ (hb);have n2_:=am_ (ho);clear HO159;clear HB;clear HO162;have HO159:=n0_;have HB:=n1_;have HO166:=n2_;clear n0_ n1_ n2_;clear ho hb hg hat;obtain ⟨Ao32,co32,eo32⟩:=Kd.R_slice HO159.out
                 (first|subst eo32|(injection eo32 with f1_ f2_ f3_;have f4_:=f1_.symm;have f5_:=f3_.symm;clear f1_ f2_ f3_;subst f4_;subst f5_))
                 refine hK.out _ _ ⟨((HB.out.cell (bl_ w _ hw163_0)).trans hw163_0),((HB.out.cell (bl_ w _ hw163_1)).trans hw163_1),((HB.out.cell (bl_ w _ hw163_2)).trans hw163_2),((HB.out.cell (bl_ w _ hw163_3)).trans hw163_3)⟩ (fun hHeld=>?_);clear hK K;refine norm_ (a':=?_) ?_ ?_;rotate_left
                 ·
                  show Act.put _ (some 45) _ = _
                  simp only [Act.put,z1_,z2_,z3_,i64_w,i32_w]
                  rfl
                 refine one_ (i:=10) (N:=some 47) (mB_ 12 2047) rfl rfl (one_of HT_.out (by kernel_rfl)) (by decide) (fun K hK=>?_);refine Kd.R_append_rows_step k49 (w0:=w) w.heap.size (by rfl) (.tmp 45) (.tmp 46) 27 49 (.agg #[(.int .i8 0),(.int .i8 0),(.int .i8 0),(.int .i8 0)]) 4 rfl Try.underlying27 info49 rfl (by decide) (by omega) v165 y164 y157 _ _ _ (fun k_=>some k_ ≠ (.slice Ao32 y157.length co32 : Value).ownBlock) (fun _=>False) rfl rfl ?aO ?aR (fun _ _ h=>h) (fun _ h=>h.elim) ?aF ?aB ?aS ?aL ?_
                 (case aR=>repeat (first|exact (Kd.R_reads' HO159.out).2.2|(with_reducible refine Kd.C_alloc ?_ _)|(with_reducible refine Kd.C_drewN ?_ _)|(with_reducible refine Kd.C_drew ?_)))
                 (case aB=>exact HB.out)
                 (case aF=>exact (fun k_ hk=>Kd.fresh' (Kd.R_lt HO159.out) k_ hk))
                 (case aO=>exact HO166.out)
                 (case aS=>exact (bZ_ HB.out))
                 (case aL=>have:=LMc21.out;omega)
                 intro v168 w31 ho hb hg hat;rw [← Ny167.out] at ho;have n0_:=am_ (Kd.R_after (ok:=(fun _=>True)) HO159.out hg hat);have n1_:=am_ (hb);have n2_:=am_ (ho);clear HO159;clear HB;clear HO166;have HO159:=n0_;have HB:=n1_;have HO169:=n2_;clear n0_ n1_ n2_;clear ho hb hg hat;refine hK.out _ _ ⟨((HB.out.cell (bl_ w _ hw163_0)).trans hw163_0),((HB.out.cell (bl_ w _ hw163_1)).trans hw163_1),((HB.out.cell (bl_ w _ hw163_2)).trans hw163_2),((HB.out.cell (bl_ w _ hw163_3)).trans hw163_3)⟩ (fun hHeld=>?_);clear hK K;refine norm_ (a':=?_) ?_ ?_;rotate_left
                 ·
                  show Act.put _ (some 47) _ = _
                  simp only [Act.put,z1_,z2_,z3_,i64_w,i32_w]
                  rfl
                 refine pure_ (i:=11) (N:=some 3) (v:=?_) (a':=?_) (mB_ 12 4095) rfl rfl (any_of HT_.out (by kernel_rfl)) (fun _ _ _ h=>h) (Or.inl ⟨by rfl,?_⟩) ?_ ?_;rotate_left
                 ·
                  intro w'
                  go_simp
                  with_reducible rfl
                 rotate_left
                 ·
                  simp only [Act.put,z1_,z2_,z3_,i64_w,i32_w]
                  rfl
                 refine done_ (done_of HT_.out (by kernel_rfl)) ?_
                 try go_wp2
                 go_roundg k2
                 case measure=>have:=HK1.out;have:=HK2.out;omega
                 case rel=>exact ⟨(y167),(wrap64 (x4_1 + 1)),(by first|rfl|(simp;done)|(simp [*];done)),H',⟨by have:=HK1.out;have:=HK2.out;omega⟩,⟨by (with_reducible repeat (first|apply Kd.R_alloc|apply Kd.R_drewN|apply Kd.R_drew));exact rM_ HO169.out (fun _ hk=>trivial)⟩,⟨by repeat (first|(with_reducible first|exact HB.out|apply bA_|apply bN_|apply bD_)|exact HB.out)⟩⟩
                ·
                 rw [if_neg c21] at H;exact absurd H (by simp)
               ·
                rw [if_neg c20] at H;exact absurd H (by simp)
              ·
               rw [if_neg c18] at H;exact absurd H (by simp)
             ·
              rw [if_neg c17] at H;exact absurd H (by simp)
            ·
             rw [if_neg c16] at H;exact absurd H (by simp)
          ·
           rw [if_neg c11] at H;exact absurd H (by simp)
         ·
          rw [if_neg c10] at H;exact absurd H (by simp)
        ·
         rw [if_neg c8] at H;exact absurd H (by simp)
       ·
        rw [if_neg c7] at H;exact absurd H (by simp)
      ·
       rw [if_neg c6] at H;have c6b0 : decide (0 < x5_2) = false:=decide_eq_false c6;clear c6;obtain ⟨y170,hy170⟩ : ∃ y_ : List (S49),y_ = (([] : List (S49))):=⟨_,rfl⟩
       replace H : (if 0≤x5_2 then (if x5_2≤(x3_1.length : Int) then ((some (x3_1.drop (x5_2 : Int).toNat : List (S49))).bind fun y173=>(if y170.length + y173.length < 35184372088832 then ((some (y170 ++ y173 : List (S49))).bind fun y177=>((some (x3_1.take (x5_2 : Int).toNat : List (S49))).bind fun y180=>(if 0≤x4_1 then (if x4_1 < (l0.length : Int) then (if y180.length < 35184372088832 then ((some (y180 ++ [(⟨(rd_T49 l0 x4_1).f0,(rd_T49 l0 x4_1).f1,(rd_T49 l0 x4_1).f2,(rd_T49 l0 x4_1).f3⟩ : S49)] : List (S49))).bind fun y184=>(if y184.length + y177.length < 35184372088832 then (spec_l01Sorted.l0 k2 l0 (y184 ++ y177) (wrap64 (x4_1 + 1))) else (none))) else (none)) else (none)) else (none)))) else (none))) else (none)) else (none)) = some r:=by first|(rw [hy170];with_reducible exact H)|(have H2_:=(Option.bind_some _ _).symm.trans H;rw [hy170];with_reducible exact H2_)|(have H2_:=(Option.bind_some _ _).symm.trans H;with_reducible exact H2_)|with_reducible exact H|(rw [hy170];exact H)|exact H
       have Ny170:=am_ hy170;clear hy170
       by_cases c33 : 0≤x5_2
       ·
        rw [if_pos c33] at H;have c33b0:=eq_true c33;have c33b1 : decide (0≤x5_2) = true:=decide_eq_true c33;clear c33
        by_cases c34 : x5_2≤(x3_1.length : Int)
        ·
         rw [if_pos c34] at H;have c34b0:=eq_true c34;have c34b1 : decide (x5_2≤(x3_1.length : Int)) = true:=decide_eq_true c34;clear c34;obtain ⟨y173,hy173⟩ : ∃ y_ : List (S49),y_ = (x3_1.drop (x5_2 : Int).toNat):=⟨_,rfl⟩
         replace H : (if y170.length + y173.length < 35184372088832 then ((some (y170 ++ y173 : List (S49))).bind fun y177=>((some (x3_1.take (x5_2 : Int).toNat : List (S49))).bind fun y180=>(if 0≤x4_1 then (if x4_1 < (l0.length : Int) then (if y180.length < 35184372088832 then ((some (y180 ++ [(⟨(rd_T49 l0 x4_1).f0,(rd_T49 l0 x4_1).f1,(rd_T49 l0 x4_1).f2,(rd_T49 l0 x4_1).f3⟩ : S49)] : List (S49))).bind fun y184=>(if y184.length + y177.length < 35184372088832 then (spec_l01Sorted.l0 k2 l0 (y184 ++ y177) (wrap64 (x4_1 + 1))) else (none))) else (none)) else (none)) else (none)))) else (none)) = some r:=by first|(rw [hy173];with_reducible exact H)|(have H2_:=(Option.bind_some _ _).symm.trans H;rw [hy173];with_reducible exact H2_)|(have H2_:=(Option.bind_some _ _).symm.trans H;with_reducible exact H2_)|with_reducible exact H|(rw [hy173];exact H)|exact H
         have Ny173:=am_ hy173;clear hy173
         by_cases c35 : y170.length + y173.length < 35184372088832
         ·
          rw [if_pos c35] at H;have LMc35:=am_ c35;clear c35;obtain ⟨y177,hy177⟩ : ∃ y_ : List (S49),y_ = (y170 ++ y173):=⟨_,rfl⟩
          replace H : ((some (x3_1.take (x5_2 : Int).toNat : List (S49))).bind fun y180=>(if 0≤x4_1 then (if x4_1 < (l0.length : Int) then (if y180.length < 35184372088832 then ((some (y180 ++ [(⟨(rd_T49 l0 x4_1).f0,(rd_T49 l0 x4_1).f1,(rd_T49 l0 x4_1).f2,(rd_T49 l0 x4_1).f3⟩ : S49)] : List (S49))).bind fun y184=>(if y184.length + y177.length < 35184372088832 then (spec_l01Sorted.l0 k2 l0 (y184 ++ y177) (wrap64 (x4_1 + 1))) else (none))) else (none)) else (none)) else (none))) = some r:=by first|(rw [hy177];with_reducible exact H)|(have H2_:=(Option.bind_some _ _).symm.trans H;rw [hy177];with_reducible exact H2_)|(have H2_:=(Option.bind_some _ _).symm.trans H;with_reducible exact H2_)|with_reducible exact H|(rw [hy177];exact H)|exact H
          have Ny177:=am_ hy177;clear hy177;have c36b0:=eq_true (od_ (by first|(with_reducible assumption)|assumption) : x5_2≤(x3_1.length : Int));obtain ⟨y180,hy180⟩ : ∃ y_ : List (S49),y_ = (x3_1.take (x5_2 : Int).toNat):=⟨_,rfl⟩
          replace H : (if 0≤x4_1 then (if x4_1 < (l0.length : Int) then (if y180.length < 35184372088832 then ((some (y180 ++ [(⟨(rd_T49 l0 x4_1).f0,(rd_T49 l0 x4_1).f1,(rd_T49 l0 x4_1).f2,(rd_T49 l0 x4_1).f3⟩ : S49)] : List (S49))).bind fun y184=>(if y184.length + y177.length < 35184372088832 then (spec_l01Sorted.l0 k2 l0 (y184 ++ y177) (wrap64 (x4_1 + 1))) else (none))) else (none)) else (none)) else (none)) = some r:=by first|(rw [hy180];with_reducible exact H)|(have H2_:=(Option.bind_some _ _).symm.trans H;rw [hy180];with_reducible exact H2_)|(have H2_:=(Option.bind_some _ _).symm.trans H;with_reducible exact H2_)|with_reducible exact H|(rw [hy180];exact H)|exact H
          have Ny180:=am_ hy180;clear hy180
          by_cases c37 : 0≤x4_1
          ·
           rw [if_pos c37] at H;have c37b0 : decide (0≤x4_1) = true:=decide_eq_true c37;clear c37
           by_cases c38 : x4_1 < (l0.length : Int)
           ·
            rw [if_pos c38] at H;have c38b0 : decide (x4_1 < (l0.length : Int)) = true:=decide_eq_true c38;clear c38
            by_cases c39 : y180.length < 35184372088832
            ·
             rw [if_pos c39] at H;have LMc39:=am_ c39;clear c39;obtain ⟨y184,hy184⟩ : ∃ y_ : List (S49),y_ = (y180 ++ [(⟨(rd_T49 l0 x4_1).f0,(rd_T49 l0 x4_1).f1,(rd_T49 l0 x4_1).f2,(rd_T49 l0 x4_1).f3⟩ : S49)]):=⟨_,rfl⟩
             replace H : (if y184.length + y177.length < 35184372088832 then (spec_l01Sorted.l0 k2 l0 (y184 ++ y177) (wrap64 (x4_1 + 1))) else (none)) = some r:=by first|(rw [hy184];with_reducible exact H)|(have H2_:=(Option.bind_some _ _).symm.trans H;rw [hy184];with_reducible exact H2_)|(have H2_:=(Option.bind_some _ _).symm.trans H;with_reducible exact H2_)|with_reducible exact H|(rw [hy184];exact H)|exact H
             have Ny184:=am_ hy184;clear hy184
             by_cases c40 : y184.length + y177.length < 35184372088832
             ·
              rw [if_pos c40] at H;have LMc40:=am_ c40;clear c40;obtain ⟨y187,hy187⟩ : ∃ y_ : List (S49),y_ = (y184 ++ y177):=⟨_,rfl⟩
              replace H : (spec_l01Sorted.l0 k2 l0 y187 (wrap64 (x4_1 + 1))) = some r:=by first|(rw [hy187];with_reducible exact H)|(have H2_:=(Option.bind_some _ _).symm.trans H;rw [hy187];with_reducible exact H2_)|(have H2_:=(Option.bind_some _ _).symm.trans H;with_reducible exact H2_)|with_reducible exact H|(rw [hy187];exact H)|exact H
              have Ny187:=am_ hy187;clear hy187;have H':=am_ H;clear H
              try go_wp2
              have n0_:=am_ (Kd.R_drew HO_3.out);have n1_:=am_ (bD_ HB.out);clear HO_3;clear HB;have HO_3:=n0_;have HB:=n1_;clear n0_ n1_;refine start_ (n:=14) (S:=fun w'=>True) (ds:=[]) (mB_ 14 0) (by kernel_rfl) rfl rfl trivial (fun hHeld=>?_);refine with_tabW spec_l01Sorted.tab6 spec_l01Sorted.bits6 (fun HT_ HW_=>?_);generalize wr.drew = w41 at HO_3 HB hHeld ⊢;refine pure_ (i:=0) (N:=some 16) (v:=?_) (a':=?_) (mB_ 14 1) rfl rfl (any_of HT_.out (by kernel_rfl)) (fun _ _ _ h=>h) (Or.inl ⟨by rfl,?_⟩) ?_ ?_;rotate_left
              ·
               intro w'
               go_simp
               with_reducible rfl
              rotate_left
              ·
               simp only [Act.put,z1_,z2_,z3_,i64_w,i32_w]
               rfl
              refine pure_ (i:=1) (N:=some 17) (v:=?_) (a':=?_) (mB_ 14 3) rfl rfl (any_of HT_.out (by kernel_rfl)) (fun _ _ _ h=>h) (Or.inl ⟨by rfl,?_⟩) ?_ ?_;rotate_left
              ·
               intro w'
               go_simp
               with_reducible rfl
              rotate_left
              ·
               simp only [Act.put,z1_,z2_,z3_,i64_w,i32_w]
               rfl
              refine pure_ (i:=2) (N:=some 18) (v:=?_) (a':=?_) (mB_ 14 7) rfl rfl (any_of HT_.out (by kernel_rfl)) (fun _ _ _ h=>h) (Or.inl ⟨by rfl,?_⟩) ?_ ?_;rotate_left
              ·
               intro w'
               go_simp
               with_reducible rfl
              rotate_left
              ·
               simp only [Act.put,z1_,z2_,z3_,i64_w,i32_w]
               rfl
              refine pure_ (i:=3) (N:=some 19) (v:=undef) (a':=?_) (mB_ 14 15) rfl rfl (any_of HT_.out (by kernel_rfl)) (fun _ _ _ h=>h) (Or.inr ⟨by rfl,rfl⟩) ?_ ?_;rotate_left
              ·
               simp only [Act.put,z1_,z2_,z3_,i64_w,i32_w]
               rfl
              refine pure_ (i:=4) (N:=some 20) (v:=undef) (a':=?_) (mB_ 14 31) rfl rfl (any_of HT_.out (by kernel_rfl)) (fun _ _ _ h=>h) (Or.inr ⟨by rfl,rfl⟩) ?_ ?_;rotate_left
              ·
               simp only [Act.put,z1_,z2_,z3_,i64_w,i32_w]
               rfl
              refine pure_ (i:=5) (N:=some 21) (v:=undef) (a':=?_) (mB_ 14 63) rfl rfl (any_of HT_.out (by kernel_rfl)) (fun _ _ _ h=>h) (Or.inr ⟨by rfl,rfl⟩) ?_ ?_;rotate_left
              ·
               simp only [Act.put,z1_,z2_,z3_,i64_w,i32_w]
               rfl
              refine pure_ (i:=6) (N:=some 22) (v:=undef) (a':=?_) (mB_ 14 127) rfl rfl (any_of HT_.out (by kernel_rfl)) (fun _ _ _ h=>h) (Or.inr ⟨by rfl,rfl⟩) ?_ ?_;rotate_left
              ·
               simp only [Act.put,z1_,z2_,z3_,i64_w,i32_w]
               rfl
              refine pure_ (i:=7) (N:=some 23) (v:=undef) (a':=?_) (mB_ 14 255) rfl rfl (any_of HT_.out (by kernel_rfl)) (fun _ _ _ h=>h) (Or.inr ⟨by rfl,rfl⟩) ?_ ?_;rotate_left
              ·
               simp only [Act.put,z1_,z2_,z3_,i64_w,i32_w]
               rfl
              refine pure_ (i:=8) (N:=some 24) (v:=undef) (a':=?_) (mB_ 14 511) rfl rfl (any_of HT_.out (by kernel_rfl)) (fun _ _ _ h=>h) (Or.inr ⟨by rfl,rfl⟩) ?_ ?_;rotate_left
              ·
               simp only [Act.put,z1_,z2_,z3_,i64_w,i32_w]
               rfl
              refine pure_ (i:=9) (N:=some 25) (v:=undef) (a':=?_) (mB_ 14 1023) rfl rfl (any_of HT_.out (by kernel_rfl)) (fun _ _ _ h=>h) (Or.inr ⟨by rfl,rfl⟩) ?_ ?_;rotate_left
              ·
               simp only [Act.put,z1_,z2_,z3_,i64_w,i32_w]
               rfl
              refine pure_ (i:=10) (N:=some 26) (v:=undef) (a':=?_) (mB_ 14 2047) rfl rfl (any_of HT_.out (by kernel_rfl)) (fun _ _ _ h=>h) (Or.inr ⟨by rfl,rfl⟩) ?_ ?_;rotate_left
              ·
               simp only [Act.put,z1_,z2_,z3_,i64_w,i32_w]
               rfl
              refine pure_ (i:=11) (N:=some 27) (v:=undef) (a':=?_) (mB_ 14 4095) rfl rfl (any_of HT_.out (by kernel_rfl)) (fun _ _ _ h=>h) (Or.inr ⟨by rfl,rfl⟩) ?_ ?_;rotate_left
              ·
               simp only [Act.put,z1_,z2_,z3_,i64_w,i32_w]
               rfl
              refine pure_ (i:=12) (N:=some 28) (v:=undef) (a':=?_) (mB_ 14 8191) rfl rfl (any_of HT_.out (by kernel_rfl)) (fun _ _ _ h=>h) (Or.inr ⟨by rfl,rfl⟩) ?_ ?_;rotate_left
              ·
               simp only [Act.put,z1_,z2_,z3_,i64_w,i32_w]
               rfl
              refine pure_ (i:=13) (N:=some 29) (v:=?_) (a':=?_) (mB_ 14 16383) rfl rfl (any_of HT_.out (by kernel_rfl)) (fun _ _ _ h=>h) (Or.inl ⟨by rfl,?_⟩) ?_ ?_;rotate_left
              ·
               intro w'
               go_simp
               with_reducible rfl
              rotate_left
              ·
               simp only [Act.put,z1_,z2_,z3_,i64_w,i32_w]
               rfl
              refine done_ (done_of HT_.out (by kernel_rfl)) ?_
              try go_wp2_with (first|((with_reducible refine gate_dst (N:=32) rfl ?_);refine Kd.R_lit k49 _ 49 ?hg (N:=32) ?hd (xs:=([] : List (S49))) (inner:=[]) (ok:=fun _=>True) (okp:=fun _=>True) ?hr ?hp (fun _ hk=>hk) trivial (Below.refl _ _) (Nat.le_refl _) (by simp) ?_;(case hd=>rfl);(case hg=>rfl);(case hr=>first|(go_simp;done)|(go_simp;rfl));(case hp=>exact (Reps.none _ _));intro v171 w42 ho43 hb hg_ hnew_;clear hg_ hnew_;(first|rw [← Ny170.out] at ho43|(simp only [Int.reduceToNat] at ho43;rw [← Ny170.out] at ho43));have n0_:=am_ (Kd.R_elder' HO_3.out (Kd.R_base ho43) hb);have n1_:=am_ (Kd.R_lower (Kd.R_new' ho43 (Kd.R_lt HO_3.out)) (bZ_ HB.out));have n2_:=am_ (bT_ HB.out hb);clear HO_3;clear HB;have HO_3:=n0_;have HO172:=n1_;have HB:=n2_;clear n0_ n1_ n2_;clear hb ho43;have q44 : (x5_2 : Int)≤((x3_1.length : Int) : Int):=od_ (by first|(with_reducible assumption)|assumption);obtain ⟨i044,hi044,_,hsz44,_⟩:=info_parts info49;have hroom44 : x3_1.length≤co5:=(Kd.R_reads' HO_3.out).2.1;have hC44 : Kd.C k49 _ Ao5 x3_1.length x3_1:=(Kd.R_reads' HO_3.out).2.2;have q044 : (0 : Int)≤(x5_2 : Int):=od_ (by first|(with_reducible assumption)|assumption);have hcut44:=cut_from (P:=Try.prog) 27 49 .i64 Try.underlying27 hi044 4 hsz44 Ao5 x3_1.length co5 x5_2 q044 q44;have hr44:=Kd.C_drop (m:=(x5_2 : Int).toNat) (c:=co5) hC44 (by omega) hroom44;obtain ⟨A44,hA44⟩ : ∃ A1,A1 = (if co5 = (x5_2 : Int).toNat then Ao5 else (Ao5 : Option Addr).map (·.add ((x5_2 : Int).toNat * 4))):=⟨_,rfl⟩;obtain ⟨c44,hc44⟩ : ∃ c1,c1 = co5 - (x5_2 : Int).toNat:=⟨_,rfl⟩;have hy44 : y173.length = x3_1.length - (x5_2 : Int).toNat:=(by rw [Ny173.out,List.length_drop] <;> omega);rw [show (x3_1).drop (x5_2 : Int).toNat = y173 from Ny173.out.symm] at hr44;replace hr44 : Kd.C k49 _ A44 y173.length y173:=(by rw [hA44];exact hr44);rw [← hy44,← hA44,← hc44] at hcut44;have HR176:=am_ hr44;have HC176:=am_ (show y173.length≤c44 from by rw [hy44,hc44];exact Nat.sub_le_sub_right hroom44 _);clear hr44 hC44 hroom44 hi044 hsz44 hc44;have KY44:=am_ hy44;have KA44:=am_ hA44;clear hy44 hA44;have KL44:=am_ (show (x5_2 : Int).toNat≤x3_1.length from by omega);replace q44:=eq_true q44)|((with_reducible refine gate_builtin (b:=.append) (xs:=#[.tmp 32,.tmp 35]) rfl ?_);at_builtin;refine Kd.R_append_rows k49 (w0:=w) w.heap.size rfl (.tmp 32) (.tmp 35) 27 49 (.agg #[(.int .i8 0),(.int .i8 0),(.int .i8 0),(.int .i8 0)]) 4 rfl Try.underlying27 info49 rfl (by decide) (by omega) v171 y170 y173 _ _ _ (fun k_=>some k_ ≠ (.slice Ao5 x3_1.length co5 : Value).ownBlock) (fun _=>False) rfl rfl ?aO ?aR (fun _ _ h=>h) (fun _ h=>h.elim) ?aF ?aB ?aS ?aL ?_;(case aR=>repeat (first|exact (by repeat (first|(with_reducible exact HR176.out)|(with_reducible refine Kd.C_alloc ?_ _)|(with_reducible refine Kd.C_drewN ?_ _)|(with_reducible refine Kd.C_drew ?_)|exact HR176.out))|(with_reducible refine Kd.C_alloc ?_ _)|(with_reducible refine Kd.C_drewN ?_ _)|(with_reducible refine Kd.C_drew ?_)));(case aB=>exact HB.out);(case aF=>exact (fun k_ hk=>Kd.fresh' (Kd.R_lt HO_3.out) k_ hk));(case aO=>exact (rM_ HO172.out (fun _ hk=>hk.2)));(case aS=>exact (bZ_ HB.out));(case aL=>have:=LMc35.out;omega);intro v178 w45 ho hb hg hat;rw [← Ny177.out] at ho;have n0_:=am_ (Kd.R_after (ok:=(fun _=>True)) HO_3.out hg hat);have n1_:=am_ (hb);have n2_:=am_ ((show Kd.C k49 w45 A44 y173.length y173 from by rw [Ny173.out,KA44.out];exact Kd.C_drop (m:=(x5_2 : Int).toNat) (c:=co5) ((Kd.R_reads' (Kd.R_after (ok:=(fun _=>True)) HO_3.out hg hat)).2.2) KL44.out ((Kd.R_reads' (Kd.R_after (ok:=(fun _=>True)) HO_3.out hg hat)).2.1)));have n3_:=am_ (ho);clear HO_3;clear HB;clear HR176;clear HO172;have HO_3:=n0_;have HB:=n1_;have HR176:=n2_;have HO179:=n3_;clear n0_ n1_ n2_ n3_;clear ho hb hg hat))
              have n0_:=am_ (Kd.R_drew HO_3.out);have n1_:=am_ (Kd.R_drew HO179.out);have n2_:=am_ (Kd.C_drew HR176.out);have n3_:=am_ (bD_ HB.out);clear HO_3;clear HO179;clear HR176;clear HB;have HO_3:=n0_;have HO179:=n1_;have HR176:=n2_;have HB:=n3_;clear n0_ n1_ n2_ n3_;have q47 : (x5_2 : Int)≤((x3_1.length : Int) : Int):=od_ (by first|(with_reducible assumption)|assumption);obtain ⟨i047,hi047,_,hsz47,_⟩:=info_parts info49;have hcut47:=cut_to (P:=Try.prog) 27 49 .i64 Try.underlying27 hi047 Ao5 x3_1.length co5 x5_2 (od_ (by first|(with_reducible assumption)|assumption)) q47 (Kd.R_reads' HO_3.out).2.1;have hr47:=Kd.R_take (m:=(x5_2 : Int).toNat) HO_3.out (by omega);have hy47 : y180.length = (x5_2 : Int).toNat:=(by rw [Ny180.out,List.length_take];omega)
              rw [← Ny180.out] at hr47;rw [← hy47] at hr47 hcut47;clear hy47 hi047 hsz47 HO_3;have HO182:=am_ hr47;clear hr47;replace q47:=eq_true q47;have p183 : 0≤(x4_1 : Int):=od_ (by first|(with_reducible assumption)|assumption);have q183 : x4_1 < (l0.length : Int):=od_ (by first|(with_reducible assumption)|assumption);obtain ⟨ad183,e183,hx183_0,hx183_1,hx183_2,hx183_3⟩:=at_T49 HR0.out x4_1 p183 q183;have hw183_3:=hx183_3;have hw183_2:=hx183_2;have hw183_1:=hx183_1;have hw183_0:=hx183_0
              cases e183
              replace hx183_0:=(HB.out.cell (bl_ w _ hx183_0)).trans hx183_0;replace hx183_1:=(HB.out.cell (bl_ w _ hx183_1)).trans hx183_1;replace hx183_2:=(HB.out.cell (bl_ w _ hx183_2)).trans hx183_2;replace hx183_3:=(HB.out.cell (bl_ w _ hx183_3)).trans hx183_3;replace p183:=eq_true p183;replace q183:=eq_true q183;refine start_ (n:=12) (S:=fun w'=>w'.cell? (ad183.add ((x4_1).toNat * 4)) = some (.int .i8 ((rd_T49 l0 x4_1).f0)) ∧ w'.cell? ⟨(ad183.add ((x4_1).toNat * 4)).block,(ad183.add ((x4_1).toNat * 4)).off + 1,none⟩ = some (.int .i8 ((rd_T49 l0 x4_1).f1)) ∧ w'.cell? ⟨(ad183.add ((x4_1).toNat * 4)).block,(ad183.add ((x4_1).toNat * 4)).off + 2,none⟩ = some (.int .i8 ((rd_T49 l0 x4_1).f2)) ∧ w'.cell? ⟨(ad183.add ((x4_1).toNat * 4)).block,(ad183.add ((x4_1).toNat * 4)).off + 3,none⟩ = some (.int .i8 ((rd_T49 l0 x4_1).f3))) (ds:=[]) (mB_ 12 0) (by kernel_rfl) rfl rfl ⟨((HB.out.cell (bl_ w _ hw183_0)).trans hw183_0),((HB.out.cell (bl_ w _ hw183_1)).trans hw183_1),((HB.out.cell (bl_ w _ hw183_2)).trans hw183_2),((HB.out.cell (bl_ w _ hw183_3)).trans hw183_3)⟩ (fun hHeld=>?_);refine with_tabW spec_l01Sorted.tab9 spec_l01Sorted.bits9 (fun HT_ HW_=>?_);generalize w45.drew = w46 at HO_3 HO179 HR176 HB HO182 hx183_0 hx183_1 hx183_2 hx183_3 hHeld ⊢;refine pure_ (i:=0) (N:=some 37) (v:=?_) (a':=?_) (mB_ 12 1) rfl rfl (any_of HT_.out (by kernel_rfl)) (fun _ _ _ h=>h) (Or.inl ⟨by rfl,?_⟩) ?_ ?_;rotate_left
              ·
               intro w'
               go_simp
               with_reducible rfl
              rotate_left
              ·
               simp only [Act.put,z1_,z2_,z3_,i64_w,i32_w]
               rfl
              refine pure_ (i:=1) (N:=some 38) (v:=?_) (a':=?_) (mB_ 12 3) rfl rfl (any_of HT_.out (by kernel_rfl)) (fun _ _ _ h=>h) (Or.inl ⟨by rfl,?_⟩) ?_ ?_;rotate_left
              ·
               intro w'
               go_simp
               with_reducible rfl
              rotate_left
              ·
               simp only [Act.put,z1_,z2_,z3_,i64_w,i32_w]
               rfl
              refine pure_ (i:=2) (N:=some 39) (v:=?_) (a':=?_) (mB_ 12 7) rfl rfl (any_of HT_.out (by kernel_rfl)) (fun _ _ _ h=>h) (Or.inl ⟨by rfl,?_⟩) ?_ ?_;rotate_left
              ·
               intro w'
               go_simp
               with_reducible rfl
              rotate_left
              ·
               simp only [Act.put,z1_,z2_,z3_,i64_w,i32_w]
               rfl
              refine pure_ (i:=3) (N:=some 40) (v:=?_) (a':=?_) (mB_ 12 15) rfl rfl (any_of HT_.out (by kernel_rfl)) (fun _ _ _ h=>h) (Or.inl ⟨by rfl,?_⟩) ?_ ?_;rotate_left
              ·
               intro w'
               go_simp
               with_reducible rfl
              rotate_left
              ·
               simp only [Act.put,z1_,z2_,z3_,i64_w,i32_w]
               rfl
              refine pure_ (i:=4) (N:=some 41) (v:=?_) (a':=?_) (mB_ 12 31) rfl rfl (any_of HT_.out (by kernel_rfl)) (fun _ _ _ h=>h) (Or.inl ⟨by rfl,?_⟩) ?_ ?_;rotate_left
              ·
               intro w'
               go_simp
               with_reducible rfl
              rotate_left
              ·
               simp only [Act.put,z1_,z2_,z3_,i64_w,i32_w]
               rfl
              refine pure_ (i:=5) (N:=some 42) (v:=?_) (a':=?_) (mB_ 12 63) rfl rfl (any_of HT_.out (by kernel_rfl)) (fun _ _ _ h=>h) (Or.inl ⟨by rfl,?_⟩) ?_ ?_;rotate_left
              ·
               intro w'
               go_simp
               with_reducible rfl
              rotate_left
              ·
               simp only [Act.put,z1_,z2_,z3_,i64_w,i32_w]
               rfl
              refine pure_ (i:=9) (N:=some 46) (v:=?_) (a':=?_) (mB_ 12 575) rfl rfl (any_of HT_.out (by kernel_rfl)) (fun _ _ _ h=>h) (Or.inl ⟨by rfl,?_⟩) ?_ ?_;rotate_left
              ·
               intro w'
               go_simp
               with_reducible rfl
              rotate_left
              ·
               simp only [Act.put,z1_,z2_,z3_,i64_w,i32_w]
               rfl
              refine take_ (i:=6) (N:=some 43) (v:=?_) (a':=?_) (mB_ 12 639) rfl rfl (take_ofW HT_.out HW_.out (by kernel_rfl)) (fun _ _ _ h=>h) (Or.inl ⟨by rfl,?_⟩) hHeld ?_ ?_;rotate_left
              ·
               rintro w' ⟨s0,s1,s2,s3⟩
               go_simp
               with_reducible rfl
              rotate_left
              ·
               simp only [Act.put,z1_,z2_,z3_,i64_w,i32_w]
               rfl
              refine one_ (i:=7) (N:=some 44) (mB_ 12 767) rfl rfl (one_of HT_.out (by kernel_rfl)) (by decide) (fun K hK=>?_);refine value_ (w1:=?_) (v:=?_) (by rfl) rfl ?_ ?_;rotate_left 2
              ·
               go_simp
               constructor
               · rfl
               · rfl
              refine hK.out _ _ ⟨(World.cell?_alloc_lt _ _ _ (bl_ _ _ (((HB.out.cell (bl_ w _ hw183_0)).trans hw183_0)))).trans (((HB.out.cell (bl_ w _ hw183_0)).trans hw183_0)),(World.cell?_alloc_lt _ _ _ (bl_ _ _ (((HB.out.cell (bl_ w _ hw183_1)).trans hw183_1)))).trans (((HB.out.cell (bl_ w _ hw183_1)).trans hw183_1)),(World.cell?_alloc_lt _ _ _ (bl_ _ _ (((HB.out.cell (bl_ w _ hw183_2)).trans hw183_2)))).trans (((HB.out.cell (bl_ w _ hw183_2)).trans hw183_2)),(World.cell?_alloc_lt _ _ _ (bl_ _ _ (((HB.out.cell (bl_ w _ hw183_3)).trans hw183_3)))).trans (((HB.out.cell (bl_ w _ hw183_3)).trans hw183_3))⟩ (fun hHeld=>?_);clear hK K;refine norm_ (a':=?_) ?_ ?_;rotate_left
              ·
               show Act.put _ (some 44) _ = _
               simp only [Act.put,z1_,z2_,z3_,i64_w,i32_w]
               rfl
              refine one_ (i:=8) (N:=some 45) (mB_ 12 1023) rfl rfl (one_of HT_.out (by kernel_rfl)) (by decide) (fun K hK=>?_);refine Kd.R_append_step k49 (w0:=w) w.heap.size (by rfl) (.tmp 39) (.tmp 44) 27 49 (.agg #[(.int .i8 0),(.int .i8 0),(.int .i8 0),(.int .i8 0)]) 4 rfl Try.underlying27 info49 rfl (by decide) (by omega) (.slice Ao5 y180.length co5) y180 (⟨(rd_T49 l0 x4_1).f0,(rd_T49 l0 x4_1).f1,(rd_T49 l0 x4_1).f2,(rd_T49 l0 x4_1).f3⟩ : S49) [.int .i8 ((rd_T49 l0 x4_1).f0),.int .i8 ((rd_T49 l0 x4_1).f1),.int .i8 ((rd_T49 l0 x4_1).f2),.int .i8 ((rd_T49 l0 x4_1).f3)] (fun k_=>some k_ ≠ (v178 : Value).ownBlock) (fun _=>False) rfl rfl ?aP (fun _ hk=>hk.elim) ?aF ?aO ?aB ?aS ?aL ?_
              (case aP=>exact k49_mkM _ _ _ (⟨(rd_T49 l0 x4_1).f0,(rd_T49 l0 x4_1).f1,(rd_T49 l0 x4_1).f2,(rd_T49 l0 x4_1).f3⟩ : S49))
              (case aB=>exact HB.out)
              (case aF=>exact (fun k_ hk=>Kd.fresh' (Kd.R_lt HO179.out) k_ hk))
              (case aO=>exact (rM_ HO182.out (fun _ hk=>hk.2)))
              (case aS=>exact (bZ_ HB.out))
              (case aL=>have:=LMc39.out;omega)
              intro v185 w48 ho hb hg hat;rw [← Ny184.out] at ho;have n0_:=am_ (Kd.R_after (ok:=(fun _=>True)) (rM_ HO179.out (fun _ hk=>⟨trivial,by first|exact hk|exact fun e_=>hk (e_.trans (own_len_ _ _ _ _ _))⟩)) hg hat);have n1_:=am_ (hb);have n2_:=am_ (ho);clear HO179;clear HB;clear HO182;have HO179:=n0_;have HB:=n1_;have HO186:=n2_;clear n0_ n1_ n2_;clear ho hb hg hat;obtain ⟨Ao50,co50,eo50⟩:=Kd.R_slice HO179.out
              (first|subst eo50|(injection eo50 with f1_ f2_ f3_;have f4_:=f1_.symm;have f5_:=f3_.symm;clear f1_ f2_ f3_;subst f4_;subst f5_))
              refine hK.out _ _ ⟨((HB.out.cell (bl_ w _ hw183_0)).trans hw183_0),((HB.out.cell (bl_ w _ hw183_1)).trans hw183_1),((HB.out.cell (bl_ w _ hw183_2)).trans hw183_2),((HB.out.cell (bl_ w _ hw183_3)).trans hw183_3)⟩ (fun hHeld=>?_);clear hK K;refine norm_ (a':=?_) ?_ ?_;rotate_left
              ·
               show Act.put _ (some 45) _ = _
               simp only [Act.put,z1_,z2_,z3_,i64_w,i32_w]
               rfl
              refine one_ (i:=10) (N:=some 47) (mB_ 12 2047) rfl rfl (one_of HT_.out (by kernel_rfl)) (by decide) (fun K hK=>?_);refine Kd.R_append_rows_step k49 (w0:=w) w.heap.size (by rfl) (.tmp 45) (.tmp 46) 27 49 (.agg #[(.int .i8 0),(.int .i8 0),(.int .i8 0),(.int .i8 0)]) 4 rfl Try.underlying27 info49 rfl (by decide) (by omega) v185 y184 y177 _ _ _ (fun k_=>some k_ ≠ (.slice Ao50 y177.length co50 : Value).ownBlock) (fun _=>False) rfl rfl ?aO ?aR (fun _ _ h=>h) (fun _ h=>h.elim) ?aF ?aB ?aS ?aL ?_
              (case aR=>repeat (first|exact (Kd.R_reads' HO179.out).2.2|(with_reducible refine Kd.C_alloc ?_ _)|(with_reducible refine Kd.C_drewN ?_ _)|(with_reducible refine Kd.C_drew ?_)))
              (case aB=>exact HB.out)
              (case aF=>exact (fun k_ hk=>Kd.fresh' (Kd.R_lt HO179.out) k_ hk))
              (case aO=>exact HO186.out)
              (case aS=>exact (bZ_ HB.out))
              (case aL=>have:=LMc40.out;omega)
              intro v188 w49 ho hb hg hat;rw [← Ny187.out] at ho;have n0_:=am_ (Kd.R_after (ok:=(fun _=>True)) HO179.out hg hat);have n1_:=am_ (hb);have n2_:=am_ (ho);clear HO179;clear HB;clear HO186;have HO179:=n0_;have HB:=n1_;have HO189:=n2_;clear n0_ n1_ n2_;clear ho hb hg hat;refine hK.out _ _ ⟨((HB.out.cell (bl_ w _ hw183_0)).trans hw183_0),((HB.out.cell (bl_ w _ hw183_1)).trans hw183_1),((HB.out.cell (bl_ w _ hw183_2)).trans hw183_2),((HB.out.cell (bl_ w _ hw183_3)).trans hw183_3)⟩ (fun hHeld=>?_);clear hK K;refine norm_ (a':=?_) ?_ ?_;rotate_left
              ·
               show Act.put _ (some 47) _ = _
               simp only [Act.put,z1_,z2_,z3_,i64_w,i32_w]
               rfl
              refine pure_ (i:=11) (N:=some 3) (v:=?_) (a':=?_) (mB_ 12 4095) rfl rfl (any_of HT_.out (by kernel_rfl)) (fun _ _ _ h=>h) (Or.inl ⟨by rfl,?_⟩) ?_ ?_;rotate_left
              ·
               intro w'
               go_simp
               with_reducible rfl
              rotate_left
              ·
               simp only [Act.put,z1_,z2_,z3_,i64_w,i32_w]
               rfl
              refine done_ (done_of HT_.out (by kernel_rfl)) ?_
              try go_wp2
              go_roundg k2
              case measure=>have:=HK1.out;have:=HK2.out;omega
              case rel=>exact ⟨(y187),(wrap64 (x4_1 + 1)),(by first|rfl|(simp;done)|(simp [*];done)),H',⟨by have:=HK1.out;have:=HK2.out;omega⟩,⟨by (with_reducible repeat (first|apply Kd.R_alloc|apply Kd.R_drewN|apply Kd.R_drew));exact rM_ HO189.out (fun _ hk=>trivial)⟩,⟨by repeat (first|(with_reducible first|exact HB.out|apply bA_|apply bN_|apply bD_)|exact HB.out)⟩⟩
             ·
              rw [if_neg c40] at H;exact absurd H (by simp)
            ·
             rw [if_neg c39] at H;exact absurd H (by simp)
           ·
            rw [if_neg c38] at H;exact absurd H (by simp)
          ·
           rw [if_neg c37] at H;exact absurd H (by simp)
         ·
          rw [if_neg c35] at H;exact absurd H (by simp)
        ·
         rw [if_neg c34] at H;exact absurd H (by simp)
       ·
        rw [if_neg c33] at H;exact absurd H (by simp)
   ·
    rw [if_neg c4] at H;have c4b0 : decide (x4_1 < (l0.length : Int)) = false:=decide_eq_false c4;clear c4;obtain rfl:=Option.some.inj H
    go_wp2
    go_ret
    exact ⟨_,by first|rfl|(simp [errW_none,errW_some] <;> rfl)|(simp [*,errW_none,errW_some] <;> rfl),by (with_reducible repeat (first|apply Kd.R_alloc|apply Kd.R_drewN|apply Kd.R_drew));exact HO_3.out,by repeat (first|(with_reducible first|exact HB.out|apply bA_|apply bN_|apply bD_)|exact HB.out)⟩
end Go.Proofs.Ytjadgmafgkoanaa.Q
