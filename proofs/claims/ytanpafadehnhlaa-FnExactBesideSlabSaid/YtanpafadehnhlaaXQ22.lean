-- By a program of this session's: of the print's words what this claim needs. Lean checks it.
import Derived.Test.YtanpafadehnhlaaXQ0
import Derived.Test.YtanpafadehnhlaaXQ21
namespace Go.Proofs.Ytanpafadehnhlaa.Q
open Go.RowKit Go.Proofs.YtanpafadehnhlaaW.PrintWords Go.Proofs.YtanpafadehnhlaaW.PrintLast Go.Proofs.YtanpafadehnhlaaW.PrintMore
attribute [local go_sem] max2_int min2_int max_two min_two max_three min_three max_four min_four
set_option linter.unusedVariables false
set_option linter.unusedSimpArgs false
def impl_Square_beside.l0 : Nat → Int → List Int → List (S38) → Int → Int → Int → Int → List (S38) → Option (List Int)
 | 0,_,_,_,_,_,_,_,_=>none
 | k + 1,x1,x5,x10,x11,x12,x389000,x389001,x389002=>if x12 < x11 then (if 0≤x12 then (if x12 < (x10.length : Int) then (if 0≤x1 then (if x1 < (x389002.length : Int) then ((impl_areBeside.f ((rd_T38 x389002 x1).f0) ((rd_T38 x389002 x1).f1) ((rd_T38 x389002 x1).f2) ((rd_T38 x389002 x1).f3) ((rd_T38 x10 x12).f0) ((rd_T38 x10 x12).f1) ((rd_T38 x10 x12).f2) ((rd_T38 x10 x12).f3)).bind fun t395=>(if t395 = true then (if x5.length < 17592186044416 then (impl_Square_beside.l0 k x1 (x5 ++ [x12]) x10 x11 (wrap64 (x12 + 1)) x389000 x389001 x389002) else (none)) else (impl_Square_beside.l0 k x1 x5 x10 x11 (wrap64 (x12 + 1)) x389000 x389001 x389002))) else (none)) else (none)) else (none)) else (none)) else (some x5)
def impl_Square_beside.f (k : Nat) (a0_0 : Int) (a0_1 : Int) (l0_2 : List (S38)) (a1 : Int) : Option (List Int) := impl_Square_beside.l0 k a1 (([] : List Int)) l0_2 (l0_2.length : Int) 0 a0_0 a0_1 l0_2
theorem impl_Square_beside.mono_l : ∀ k, (∀ y0 y1 y2 y3 y4 y5 y6 y7, LeO (impl_Square_beside.l0 k y0 y1 y2 y3 y4 y5 y6 y7) (impl_Square_beside.l0 (k + 1) y0 y1 y2 y3 y4 y5 y6 y7))
 | 0=>fun _ _ _ _ _ _ _ _ r h=>by simp [impl_Square_beside.l0] at h
 | k + 1=>by
  have ih0:=impl_Square_beside.mono_l k
  ·
   intro y0 y1 y2 y3 y4 y5 y6 y7
   unfold impl_Square_beside.l0
   repeat' first
   | (with_reducible exact ih0 _ _ _ _ _ _ _ _)
   | (with_reducible exact LeO.refl _)
   | (with_reducible exact LeO.none _)
   | (with_reducible refine LeO.ite ?_ ?_)
   | (with_reducible refine LeO.bind ?_ (fun _=>?_))
   | exact ih0 _ _ _ _ _ _ _ _
   | exact LeO.none _
   | refine LeO.ite ?_ ?_
   | refine LeO.bind ?_ (fun _=>?_)
theorem impl_Square_beside.mono : ∀ a0 a1 a2 a3 k, LeO (impl_Square_beside.f k a0 a1 a2 a3) (impl_Square_beside.f (k + 1) a0 a1 a2 a3) := by
 intro a0 a1 a2 a3 k;have ih0:=impl_Square_beside.mono_l k
 unfold impl_Square_beside.f
 repeat' first
   | (with_reducible exact ih0 _ _ _ _ _ _ _ _)
   | (with_reducible exact LeO.refl _)
   | (with_reducible exact LeO.none _)
   | (with_reducible refine LeO.ite ?_ ?_)
   | (with_reducible refine LeO.bind ?_ (fun _=>?_))
   | exact ih0 _ _ _ _ _ _ _ _
   | exact LeO.none _
   | refine LeO.ite ?_ ?_
   | refine LeO.bind ?_ (fun _=>?_)
set_option maxHeartbeats 8000000 in
set_option maxRecDepth 100000 in
theorem impl_Square_beside.calls (k : Nat) (a0_0 : Int) (a0_1 : Int) (A0_2 : Option Addr) (c0_2 : Nat) (l0_2 : List (S38)) (a1 : Int) (r : List Int) (w : World) (hr0_2 : Kd.C k38 w A0_2 l0_2.length l0_2) (hc0_2 : l0_2.length ≤ c0_2) (h : impl_Square_beside.f k a0_0 a0_1 l0_2 a1 = some r) :
  Calls Try.prog 69 #[.agg #[.int .i8 a0_0,.int .i8 a0_1,.slice A0_2 l0_2.length c0_2],.int .i64 a1] w fun e w'=>∃ v0_ : Value,e = .returned (v0_) ∧ Kd.R (Kd.int .i64) 2 w' w.heap.size (fun _=>True) v0_ r ∧ Below w.heap.size w w':=by
 have hu30:=Try.underlying30;have hu38:=Try.underlying38;have HR0_2:=am_ hr0_2;have HC0_2:=am_ hc0_2;clear hr0_2 hc0_2;have HB:=am_ (Below.refl w.heap.size w);have H : (impl_Square_beside.l0 k a1 (([] : List Int)) l0_2 (l0_2.length : Int) 0 a0_0 a0_1 l0_2) = some r:=h;clear h;obtain ⟨y389,hy389⟩ : ∃ y_ : List Int,y_ = (([] : List Int)):=⟨_,rfl⟩
 replace H : (impl_Square_beside.l0 k a1 y389 l0_2 (l0_2.length : Int) 0 a0_0 a0_1 l0_2) = some r:=by first|(rw [hy389];with_reducible exact H)|(have H2_:=(Option.bind_some _ _).symm.trans H;rw [hy389];with_reducible exact H2_)|(have H2_:=(Option.bind_some _ _).symm.trans H;with_reducible exact H2_)|with_reducible exact H|(rw [hy389];exact H)|exact H
 have Ny389:=am_ hy389;clear hy389;have H':=am_ H;clear H
 go_enter Try.func69,Try.ntmps69
 go_wp2_with (first|((with_reducible refine gate_dst (N:=2) rfl ?_);refine box_event ?hg (N:=2) ?hd (cs:=#[.int .i8 a0_0,.int .i8 a0_1,.slice A0_2 l0_2.length c0_2]) (t:=30) ?hr ?_;(case hd=>rfl);(case hg=>rfl);(case hr=>first|(go_simp;done)|(go_simp;rfl));intro gb388 hg w3 hbox hb;have n0_:=am_ (bT_ (by repeat (first|(with_reducible first|exact HB.out|apply bA_|apply bN_|apply bD_)|exact HB.out)) hb);have n1_:=am_ (hbox);have n2_:=am_ ((by rw [hg];exact (below_size (by repeat (first|(with_reducible first|exact HB.out|apply bA_|apply bN_|apply bD_)|exact HB.out))) : w.heap.size≤gb388));have n3_:=n2_;clear HB;have HB:=n0_;have BK388:=n1_;have GW388:=n2_;have GE388:=n3_;clear n0_ n1_ n2_ n3_;clear hb hbox hg)|((with_reducible refine gate_dst (N:=8) rfl ?_);refine Kd.R_lit (Kd.int .i64) _ 2 ?hg (N:=8) ?hd (xs:=([] : List Int)) (inner:=[]) (ok:=fun _=>True) (okp:=fun _=>True) ?hr ?hp (fun _ hk=>hk) trivial (Below.refl _ _) (Nat.le_refl _) (by simp) ?_;(case hd=>rfl);(case hg=>rfl);(case hr=>first|(go_simp;done)|(go_simp;rfl));(case hp=>exact (Reps.none _ _));intro v390 w4 ho5 hb hg_ hnew_;clear hg_ hnew_;(first|rw [← Ny389.out] at ho5|(simp only [Int.reduceToNat] at ho5;rw [← Ny389.out] at ho5));have n0_:=am_ (Kd.R_lower ho5 (below_size (by repeat (first|(with_reducible first|exact HB.out|apply bA_|apply bN_|apply bD_|refine bS_ ?_ GE388.out)|exact HB.out))));have n1_:=am_ (blk_below (g:=gb388) (o:=.cells #[.int .i8 a0_0,.int .i8 a0_1,.slice A0_2 l0_2.length c0_2] 30 (0,0)) (by (with_reducible repeat (first|apply kN_|apply kD_|apply kA_));exact BK388.out) hb);have n2_:=am_ (bT_ (by repeat (first|(with_reducible first|exact HB.out|apply bA_|apply bN_|apply bD_|refine bS_ ?_ GE388.out)|exact HB.out)) hb);clear BK388;clear HB;have HO391:=n0_;have BK388:=n1_;have HB:=n2_;clear n0_ n1_ n2_;clear hb ho5;have hcz6_0 : w4.cell? ⟨gb388,0,none⟩ = some (.int .i8 a0_0):=(kC_ BK388.out 0).trans rfl;have hcz6_1 : w4.cell? ⟨gb388,1,none⟩ = some (.int .i8 a0_1):=(kC_ BK388.out 1).trans rfl;have hcz6_2 : w4.cell? ⟨gb388,2,none⟩ = some (.slice A0_2 l0_2.length c0_2):=(kC_ BK388.out 2).trans rfl;have hfz6_0:=kF_ BK388.out 0;have hfz6_1:=kF_ BK388.out 1;have hfz6_2:=kF_ BK388.out 2))
 go_loopg [5,12] k (fun kq v5 v12 w'=>∃ (x5_1 : List Int) (x12_1 : Int),v12 = .int .i64 x12_1 ∧ Aside0 (impl_Square_beside.l0 kq a1 x5_1 l0_2 (l0_2.length : Int) x12_1 a0_0 a0_1 l0_2 = some r) ∧ Aside0 (kq≤k) ∧ Aside0 (Kd.R (Kd.int .i64) 2 w' w.heap.size (fun _=>True) v5 x5_1) ∧ Aside0 (w'.heap[gb388]? = some (.cells #[.int .i8 a0_0,.int .i8 a0_1,(.slice A0_2 l0_2.length c0_2)] 30 (0,0))) ∧ Aside0 (Below w.heap.size w w'))
 case atStart=>exact ⟨(y389),(0),(by first|rfl|(simp;done)|(simp [*];done)),H',⟨Nat.le_refl _⟩,⟨by (with_reducible repeat (first|apply Kd.R_alloc|apply Kd.R_drewN|apply Kd.R_drew));exact HO391.out⟩,⟨by (with_reducible repeat (first|apply kN_|apply kD_|apply kA_));exact BK388.out⟩,⟨by repeat (first|(with_reducible first|exact HB.out|apply bA_|apply bN_|apply bD_|refine bS_ ?_ GE388.out)|exact HB.out)⟩⟩
 case round =>
  clear H';(try clear p2);(try clear c6);(try clear hcz6_0);(try clear hcz6_1);(try clear hcz6_2);(try clear hfz6_0);(try clear hfz6_1);(try clear hfz6_2);obtain ⟨x5_1,x12_1,rfl,HA,HK1,HO_5,BK388,HB⟩:=hrel
  cases gk with
  | zero=>exact absurd HA.out (by simp [impl_Square_beside.l0])
  | succ k1 =>
   have H:=HA.out;clear HA;simp only [impl_Square_beside.l0] at H
   by_cases c7 : x12_1 < (l0_2.length : Int)
   ·
    rw [if_pos c7] at H;have c7b0 : decide (x12_1 < (l0_2.length : Int)) = true:=decide_eq_true c7;clear c7
    by_cases c8 : 0≤x12_1
    ·
     rw [if_pos c8] at H;have c8b0 : decide (0≤x12_1) = true:=decide_eq_true c8;clear c8
     by_cases c9 : x12_1 < (l0_2.length : Int)
     ·
      rw [if_pos c9] at H;have c9b0 : decide (x12_1 < (l0_2.length : Int)) = true:=decide_eq_true c9;clear c9
      by_cases c10 : 0≤a1
      ·
       rw [if_pos c10] at H;have c10b0 : decide (0≤a1) = true:=decide_eq_true c10;clear c10
       by_cases c11 : a1 < (l0_2.length : Int)
       ·
        rw [if_pos c11] at H;have c11b0 : decide (a1 < (l0_2.length : Int)) = true:=decide_eq_true c11;clear c11;replace H:=Option.bind_eq_some_iff.mp H;obtain ⟨t395,A120,H⟩:=H;replace H : (if t395 = true then (if x5_1.length < 17592186044416 then (impl_Square_beside.l0 k1 a1 (x5_1 ++ [x12_1]) l0_2 (l0_2.length : Int) (wrap64 (x12_1 + 1)) a0_0 a0_1 l0_2) else (none)) else (impl_Square_beside.l0 k1 a1 x5_1 l0_2 (l0_2.length : Int) (wrap64 (x12_1 + 1)) a0_0 a0_1 l0_2)) = some r:=H;have A12:=am_ A120;clear A120
        by_cases c13 : t395 = true
        ·
         subst c13;have H1 : (if x5_1.length < 17592186044416 then (impl_Square_beside.l0 k1 a1 (x5_1 ++ [x12_1]) l0_2 (l0_2.length : Int) (wrap64 (x12_1 + 1)) a0_0 a0_1 l0_2) else (none)) = some r:=by rw [if_pos rfl] at H;exact H
         clear H;have H:=H1;clear H1
         by_cases c14 : x5_1.length < 17592186044416
         ·
          rw [if_pos c14] at H;have LMc14:=am_ c14;clear c14;obtain ⟨y396,hy396⟩ : ∃ y_ : List Int,y_ = (x5_1 ++ [x12_1]):=⟨_,rfl⟩
          replace H : (impl_Square_beside.l0 k1 a1 y396 l0_2 (l0_2.length : Int) (wrap64 (x12_1 + 1)) a0_0 a0_1 l0_2) = some r:=by first|(rw [hy396];with_reducible exact H)|(have H2_:=(Option.bind_some _ _).symm.trans H;rw [hy396];with_reducible exact H2_)|(have H2_:=(Option.bind_some _ _).symm.trans H;with_reducible exact H2_)|with_reducible exact H|(rw [hy396];exact H)|exact H
          have Ny396:=am_ hy396;clear hy396;have H':=am_ H;clear H;have p392 : 0≤(x12_1 : Int):=od_ (by first|(with_reducible assumption)|assumption);have q392 : x12_1 < (l0_2.length : Int):=od_ (by first|(with_reducible assumption)|assumption);obtain ⟨ad392,e392,hx392_0,hx392_1,hx392_2,hx392_3⟩:=at_T38 HR0_2.out x12_1 p392 q392
          cases e392
          replace hx392_0:=(HB.out.cell (bl_ w _ hx392_0)).trans hx392_0;replace hx392_1:=(HB.out.cell (bl_ w _ hx392_1)).trans hx392_1;replace hx392_2:=(HB.out.cell (bl_ w _ hx392_2)).trans hx392_2;replace hx392_3:=(HB.out.cell (bl_ w _ hx392_3)).trans hx392_3;replace p392:=eq_true p392;replace q392:=eq_true q392
          try go_wp2_with (first|((with_reducible refine gate_dst (N:=7) rfl ?_);refine box_event ?hg (N:=7) ?hd (cs:=#[.int .i8 0,.int .i8 0,.int .i8 0,.int .i8 0]) (t:=38) ?hr ?_;(case hd=>rfl);(case hg=>rfl);(case hr=>first|(go_simp;done)|(go_simp;rfl));intro gb393 hg w15 hbox hb;have n0_:=am_ (Kd.R_below (by (with_reducible repeat (first|apply Kd.R_alloc|apply Kd.R_drewN|apply Kd.R_drew));exact HO_5.out) hb);have n1_:=am_ (blk_below (g:=gb388) (o:=.cells #[.int .i8 a0_0,.int .i8 a0_1,.slice (some ad392) l0_2.length c0_2] 30 (0,0)) (by (with_reducible repeat (first|apply kN_|apply kD_|apply kA_));exact BK388.out) hb);have n2_:=am_ (bT_ (by repeat (first|(with_reducible first|exact HB.out|apply bA_|apply bN_|apply bD_|refine bS_ ?_ GE388.out)|exact HB.out)) hb);have n3_:=am_ (hbox);have n4_:=am_ ((by rw [hg];exact (below_size (by repeat (first|(with_reducible first|exact HB.out|apply bA_|apply bN_|apply bD_|refine bS_ ?_ GE388.out)|exact HB.out))) : w.heap.size≤gb393));have n5_:=n4_;have n6_:=am_ ((by rw [hg];exact Nat.ne_of_lt (blk_lt (g:=gb388) (o:=.cells #[.int .i8 a0_0,.int .i8 a0_1,.slice (some ad392) l0_2.length c0_2] 30 (0,0)) (by (with_reducible repeat (first|apply kN_|apply kD_|apply kA_));exact BK388.out)) : gb388 ≠ gb393));have n7_:=am_ ((by rw [hg];exact Nat.ne_of_gt (blk_lt (g:=gb388) (o:=.cells #[.int .i8 a0_0,.int .i8 a0_1,.slice (some ad392) l0_2.length c0_2] 30 (0,0)) (by (with_reducible repeat (first|apply kN_|apply kD_|apply kA_));exact BK388.out)) : gb393 ≠ gb388));clear HO_5;clear BK388;clear HB;have HO_5:=n0_;have BK388:=n1_;have HB:=n2_;have BK393:=n3_;have GW393:=n4_;have GE393:=n5_;have NB388_393:=n6_;have NB393_388:=n7_;clear n0_ n1_ n2_ n3_ n4_ n5_ n6_ n7_;clear hb hbox hg;have hnb16:=NB393_388.out;have hnc16:=NB388_393.out;have hcz17_0 : w15.cell? ⟨gb393,0,none⟩ = some (.int .i8 0):=(kC_ BK393.out 0).trans rfl;have hcz17_1 : w15.cell? ⟨gb393,1,none⟩ = some (.int .i8 0):=(kC_ BK393.out 1).trans rfl;have hcz17_2 : w15.cell? ⟨gb393,2,none⟩ = some (.int .i8 0):=(kC_ BK393.out 2).trans rfl;have hcz17_3 : w15.cell? ⟨gb393,3,none⟩ = some (.int .i8 0):=(kC_ BK393.out 3).trans rfl;have hfz17_0:=kF_ BK393.out 0;have hfz17_1:=kF_ BK393.out 1;have hfz17_2:=kF_ BK393.out 2;have hfz17_3:=kF_ BK393.out 3))
          have n0_ : Aside0 (Kd.R (Kd.int .i64) 2 ((((w15.setCell ⟨gb393,0,none⟩ (.int .i8 ((rd_T38 l0_2 x12_1).f0))).setCell ⟨gb393,1,none⟩ (.int .i8 ((rd_T38 l0_2 x12_1).f1))).setCell ⟨gb393,2,none⟩ (.int .i8 ((rd_T38 l0_2 x12_1).f2))).setCell ⟨gb393,3,none⟩ (.int .i8 ((rd_T38 l0_2 x12_1).f3))) w.heap.size (fun _=>True) u5 x5_1):=⟨by (with_reducible repeat (first|apply Kd.R_alloc|apply Kd.R_drewN|apply Kd.R_drew));exact Kd.R_mono (Kd.R_far (p:=⟨gb393,3,none⟩) (Kd.R_far (p:=⟨gb393,2,none⟩) (Kd.R_far (p:=⟨gb393,1,none⟩) (Kd.R_far (p:=⟨gb393,0,none⟩) (Kd.R_types HO_5.out BK393.out (by decide)) (fun _ hk=>hk.2) (.int .i8 ((rd_T38 l0_2 x12_1).f0))) (fun _ hk=>hk.2) (.int .i8 ((rd_T38 l0_2 x12_1).f1))) (fun _ hk=>hk.2) (.int .i8 ((rd_T38 l0_2 x12_1).f2))) (fun _ hk=>hk.2) (.int .i8 ((rd_T38 l0_2 x12_1).f3))) (fun _ hk=>trivial)⟩
          have n1_ : Aside0 (((((w15.setCell ⟨gb393,0,none⟩ (.int .i8 ((rd_T38 l0_2 x12_1).f0))).setCell ⟨gb393,1,none⟩ (.int .i8 ((rd_T38 l0_2 x12_1).f1))).setCell ⟨gb393,2,none⟩ (.int .i8 ((rd_T38 l0_2 x12_1).f2))).setCell ⟨gb393,3,none⟩ (.int .i8 ((rd_T38 l0_2 x12_1).f3))).heap[gb388]? = some (.cells #[.int .i8 a0_0,.int .i8 a0_1,.slice (some ad392) l0_2.length c0_2] 30 (0,0))):=⟨by (with_reducible repeat (first|apply kN_|apply kD_|apply kA_));refine blk_far ?_ NB388_393.out _;(with_reducible repeat (first|apply kN_|apply kD_|apply kA_));refine blk_far ?_ NB388_393.out _;(with_reducible repeat (first|apply kN_|apply kD_|apply kA_));refine blk_far ?_ NB388_393.out _;(with_reducible repeat (first|apply kN_|apply kD_|apply kA_));refine blk_far ?_ NB388_393.out _;(with_reducible repeat (first|apply kN_|apply kD_|apply kA_));exact BK388.out⟩
          have n2_ : Aside0 (((((w15.setCell ⟨gb393,0,none⟩ (.int .i8 ((rd_T38 l0_2 x12_1).f0))).setCell ⟨gb393,1,none⟩ (.int .i8 ((rd_T38 l0_2 x12_1).f1))).setCell ⟨gb393,2,none⟩ (.int .i8 ((rd_T38 l0_2 x12_1).f2))).setCell ⟨gb393,3,none⟩ (.int .i8 ((rd_T38 l0_2 x12_1).f3))).heap[gb393]? = some (.cells #[.int .i8 ((rd_T38 l0_2 x12_1).f0),.int .i8 ((rd_T38 l0_2 x12_1).f1),.int .i8 ((rd_T38 l0_2 x12_1).f2),.int .i8 ((rd_T38 l0_2 x12_1).f3)] 38 (0,0))):=⟨by (with_reducible repeat (first|apply kN_|apply kD_|apply kA_));refine blk_put (cs:=#[.int .i8 ((rd_T38 l0_2 x12_1).f0),.int .i8 ((rd_T38 l0_2 x12_1).f1),.int .i8 ((rd_T38 l0_2 x12_1).f2),.int .i8 0]) ?_ 3 _ rfl;(with_reducible repeat (first|apply kN_|apply kD_|apply kA_));refine blk_put (cs:=#[.int .i8 ((rd_T38 l0_2 x12_1).f0),.int .i8 ((rd_T38 l0_2 x12_1).f1),.int .i8 0,.int .i8 0]) ?_ 2 _ rfl;(with_reducible repeat (first|apply kN_|apply kD_|apply kA_));refine blk_put (cs:=#[.int .i8 ((rd_T38 l0_2 x12_1).f0),.int .i8 0,.int .i8 0,.int .i8 0]) ?_ 1 _ rfl;(with_reducible repeat (first|apply kN_|apply kD_|apply kA_));refine blk_put (cs:=#[.int .i8 0,.int .i8 0,.int .i8 0,.int .i8 0]) ?_ 0 _ rfl;(with_reducible repeat (first|apply kN_|apply kD_|apply kA_));exact BK393.out⟩
          have n3_ : Aside0 (Below w.heap.size w ((((w15.setCell ⟨gb393,0,none⟩ (.int .i8 ((rd_T38 l0_2 x12_1).f0))).setCell ⟨gb393,1,none⟩ (.int .i8 ((rd_T38 l0_2 x12_1).f1))).setCell ⟨gb393,2,none⟩ (.int .i8 ((rd_T38 l0_2 x12_1).f2))).setCell ⟨gb393,3,none⟩ (.int .i8 ((rd_T38 l0_2 x12_1).f3)))):=⟨by repeat (first|(with_reducible first|exact HB.out|apply bA_|apply bN_|apply bD_|refine bS_ ?_ GE388.out|refine bS_ ?_ GE393.out)|exact HB.out)⟩
          (try clear HO_5);(try clear BK388);(try clear BK393);(try clear HB);generalize ((((w15.setCell ⟨gb393,0,none⟩ (.int .i8 ((rd_T38 l0_2 x12_1).f0))).setCell ⟨gb393,1,none⟩ (.int .i8 ((rd_T38 l0_2 x12_1).f1))).setCell ⟨gb393,2,none⟩ (.int .i8 ((rd_T38 l0_2 x12_1).f2))).setCell ⟨gb393,3,none⟩ (.int .i8 ((rd_T38 l0_2 x12_1).f3))) = w18 at n0_ n1_ n2_ n3_ ⊢;have HO_5:=n0_;have BK388:=n1_;have BK393:=n2_;have HB:=n3_;clear n0_ n1_ n2_ n3_;have n0_:=am_ (Kd.R_drew HO_5.out);have n1_:=am_ (kD_ BK388.out);have n2_:=am_ (kD_ BK393.out);have n3_:=am_ (bD_ HB.out);clear HO_5;clear BK388;clear BK393;clear HB;have HO_5:=n0_;have BK388:=n1_;have BK393:=n2_;have HB:=n3_;clear n0_ n1_ n2_ n3_;have p394 : 0≤(a1 : Int):=od_ (by first|(with_reducible assumption)|assumption);have q394 : a1 < (l0_2.length : Int):=od_ (by first|(with_reducible assumption)|assumption);obtain ⟨ad394,e394,hx394_0,hx394_1,hx394_2,hx394_3⟩:=at_T38 HR0_2.out a1 p394 q394;have hw394_3:=hx394_3;have hw394_2:=hx394_2;have hw394_1:=hx394_1;have hw394_0:=hx394_0;obtain rfl : ad392 = ad394:=(by injection e394)
          replace hx394_0:=(HB.out.cell (bl_ w _ hx394_0)).trans hx394_0;replace hx394_1:=(HB.out.cell (bl_ w _ hx394_1)).trans hx394_1;replace hx394_2:=(HB.out.cell (bl_ w _ hx394_2)).trans hx394_2;replace hx394_3:=(HB.out.cell (bl_ w _ hx394_3)).trans hx394_3;replace p394:=eq_true p394;replace q394:=eq_true q394;refine start_ (n:=7) (S:=fun w'=>w'.cell? ⟨gb388,0,none⟩ = some (.int .i8 a0_0) ∧ w'.cell? ⟨gb388,1,none⟩ = some (.int .i8 a0_1) ∧ w'.cell? ⟨gb388,2,none⟩ = some (.slice (some ad392) l0_2.length c0_2) ∧ w'.cell? ⟨gb393,0,none⟩ = some (.int .i8 ((rd_T38 l0_2 x12_1).f0)) ∧ w'.cell? ⟨gb393,1,none⟩ = some (.int .i8 ((rd_T38 l0_2 x12_1).f1)) ∧ w'.cell? ⟨gb393,2,none⟩ = some (.int .i8 ((rd_T38 l0_2 x12_1).f2)) ∧ w'.cell? ⟨gb393,3,none⟩ = some (.int .i8 ((rd_T38 l0_2 x12_1).f3)) ∧ w'.cell? (ad392.add ((a1).toNat * 4)) = some (.int .i8 ((rd_T38 l0_2 a1).f0)) ∧ w'.cell? ⟨(ad392.add ((a1).toNat * 4)).block,(ad392.add ((a1).toNat * 4)).off + 1,none⟩ = some (.int .i8 ((rd_T38 l0_2 a1).f1)) ∧ w'.cell? ⟨(ad392.add ((a1).toNat * 4)).block,(ad392.add ((a1).toNat * 4)).off + 2,none⟩ = some (.int .i8 ((rd_T38 l0_2 a1).f2)) ∧ w'.cell? ⟨(ad392.add ((a1).toNat * 4)).block,(ad392.add ((a1).toNat * 4)).off + 3,none⟩ = some (.int .i8 ((rd_T38 l0_2 a1).f3))) (ds:=[]) (mB_ 7 0) (by kernel_rfl) rfl rfl ⟨(kC_ BK388.out 0).trans rfl,(kC_ BK388.out 1).trans rfl,(kC_ BK388.out 2).trans rfl,(kC_ BK393.out 0).trans rfl,(kC_ BK393.out 1).trans rfl,(kC_ BK393.out 2).trans rfl,(kC_ BK393.out 3).trans rfl,((HB.out.cell (bl_ w _ hw394_0)).trans hw394_0),((HB.out.cell (bl_ w _ hw394_1)).trans hw394_1),((HB.out.cell (bl_ w _ hw394_2)).trans hw394_2),((HB.out.cell (bl_ w _ hw394_3)).trans hw394_3)⟩ (fun hHeld=>?_);generalize w18.drew = w19 at HO_5 BK388 BK393 HB hx394_0 hx394_1 hx394_2 hx394_3 hHeld ⊢;refine pure_ (i:=0) (N:=some 17) (v:=?_) (a':=?_) (mB_ 7 1) rfl rfl (by kernel_rfl) (fun _ _ _ h=>h) (Or.inl ⟨by rfl,?_⟩) ?_ ?_;rotate_left
          ·
           intro w'
           go_simp
           with_reducible rfl
          rotate_left
          ·
           simp only [Act.put,z1_,z2_,z3_,i64_w,i32_w]
           rfl
          refine pure_ (i:=2) (N:=some 19) (v:=?_) (a':=?_) (mB_ 7 5) rfl rfl (by kernel_rfl) (fun _ _ _ h=>h) (Or.inl ⟨by rfl,?_⟩) ?_ ?_;rotate_left
          ·
           intro w'
           go_simp
           with_reducible rfl
          rotate_left
          ·
           simp only [Act.put,z1_,z2_,z3_,i64_w,i32_w]
           rfl
          refine take_ (i:=1) (N:=some 18) (v:=?_) (a':=?_) (mB_ 7 7) rfl rfl (by kernel_rfl) (fun _ _ _ h=>h) (Or.inl ⟨by rfl,?_⟩) hHeld ?_ ?_;rotate_left
          ·
           rintro w' ⟨s0,s1,s2,s3,s4,s5,s6,s7,s8,s9,s10⟩
           go_simp
           with_reducible rfl
          rotate_left
          ·
           simp only [Act.put,z1_,z2_,z3_,i64_w,i32_w]
           rfl
          refine pure_ (i:=3) (N:=some 20) (v:=?_) (a':=?_) (mB_ 7 15) rfl rfl (by kernel_rfl) (fun _ _ _ h=>h) (Or.inl ⟨by rfl,?_⟩) ?_ ?_;rotate_left
          ·
           intro w'
           go_simp
           with_reducible rfl
          rotate_left
          ·
           simp only [Act.put,z1_,z2_,z3_,i64_w,i32_w]
           rfl
          refine take_ (i:=4) (N:=some 21) (v:=?_) (a':=?_) (mB_ 7 31) rfl rfl (by kernel_rfl) (fun _ _ _ h=>h) (Or.inl ⟨by rfl,?_⟩) hHeld ?_ ?_;rotate_left
          ·
           rintro w' ⟨s0,s1,s2,s3,s4,s5,s6,s7,s8,s9,s10⟩
           go_simp
           with_reducible rfl
          rotate_left
          ·
           simp only [Act.put,z1_,z2_,z3_,i64_w,i32_w]
           rfl
          refine take_ (i:=5) (N:=some 22) (v:=?_) (a':=?_) (mB_ 7 63) rfl rfl (by kernel_rfl) (fun _ _ _ h=>h) (Or.inl ⟨by rfl,?_⟩) hHeld ?_ ?_;rotate_left
          ·
           rintro w' ⟨s0,s1,s2,s3,s4,s5,s6,s7,s8,s9,s10⟩
           go_simp
           with_reducible rfl
          rotate_left
          ·
           simp only [Act.put,z1_,z2_,z3_,i64_w,i32_w]
           rfl
          refine one_ (i:=6) (N:=some 23) (mB_ 7 127) rfl rfl (by kernel_rfl) (by decide) (fun K hK=>?_);refine goes_ Try.func91 (by kernel_rfl) rfl #[.agg #[.int .i8 ((rd_T38 l0_2 a1).f0),.int .i8 ((rd_T38 l0_2 a1).f1),.int .i8 ((rd_T38 l0_2 a1).f2),.int .i8 ((rd_T38 l0_2 a1).f3)],.agg #[.int .i8 ((rd_T38 l0_2 x12_1).f0),.int .i8 ((rd_T38 l0_2 x12_1).f1),.int .i8 ((rd_T38 l0_2 x12_1).f2),.int .i8 ((rd_T38 l0_2 x12_1).f3)]] (by rfl) rfl rfl (by (try simp only [List.map_toArray,List.map_cons,List.map_nil]);first|done|rfl|(simp only [List.length_drop,List.length_take];rfl)) ?_
          with_reducible refine (impl_areBeside.calls ((rd_T38 l0_2 a1).f0) ((rd_T38 l0_2 a1).f1) ((rd_T38 l0_2 a1).f2) ((rd_T38 l0_2 a1).f3) ((rd_T38 l0_2 x12_1).f0) ((rd_T38 l0_2 x12_1).f1) ((rd_T38 l0_2 x12_1).f2) ((rd_T38 l0_2 x12_1).f3) true _ A12.out).mono ?_
          rintro e w20 ⟨rfl,hb⟩;refine ⟨_,rfl,?_⟩;have n0_:=am_ (Kd.R_below (by (with_reducible repeat (first|apply Kd.R_alloc|apply Kd.R_drewN|apply Kd.R_drew));exact HO_5.out) hb);have n1_:=am_ (blk_below (g:=gb388) (o:=.cells #[.int .i8 a0_0,.int .i8 a0_1,.slice (some ad392) l0_2.length c0_2] 30 (0,0)) (by (with_reducible repeat (first|apply kN_|apply kD_|apply kA_));exact BK388.out) hb);have n2_:=am_ (blk_below (g:=gb393) (o:=.cells #[.int .i8 ((rd_T38 l0_2 x12_1).f0),.int .i8 ((rd_T38 l0_2 x12_1).f1),.int .i8 ((rd_T38 l0_2 x12_1).f2),.int .i8 ((rd_T38 l0_2 x12_1).f3)] 38 (0,0)) (by (with_reducible repeat (first|apply kN_|apply kD_|apply kA_));exact BK393.out) hb);have n3_:=am_ (bT_ (by repeat (first|(with_reducible first|exact HB.out|apply bA_|apply bN_|apply bD_|refine bS_ ?_ GE388.out|refine bS_ ?_ GE393.out)|exact HB.out)) hb);clear HO_5;clear BK388;clear BK393;clear HB;have HO_5:=n0_;have BK388:=n1_;have BK393:=n2_;have HB:=n3_;clear n0_ n1_ n2_ n3_;(try clear hb);(try clear hb2);(try clear hk);(try clear hi);refine hK.out _ _ ⟨(kC_ BK388.out 0).trans rfl,(kC_ BK388.out 1).trans rfl,(kC_ BK388.out 2).trans rfl,(kC_ BK393.out 0).trans rfl,(kC_ BK393.out 1).trans rfl,(kC_ BK393.out 2).trans rfl,(kC_ BK393.out 3).trans rfl,((HB.out.cell (bl_ w _ hw394_0)).trans hw394_0),((HB.out.cell (bl_ w _ hw394_1)).trans hw394_1),((HB.out.cell (bl_ w _ hw394_2)).trans hw394_2),((HB.out.cell (bl_ w _ hw394_3)).trans hw394_3)⟩ (fun hHeld=>?_);clear hK K;refine norm_ (a':=?_) ?_ ?_;rotate_left
          ·
           show Act.put _ (some 23) _ = _
           simp only [Act.put,z1_,z2_,z3_,i64_w,i32_w]
           rfl
          refine done_ (by kernel_rfl) ?_
          try go_wp2_with (first|((with_reducible refine gate_builtin (b:=.append) (xs:=#[.tmp 24,.tmp 26]) rfl ?_);at_builtin;refine Kd.R_append (Kd.int .i64) (w0:=w) w.heap.size rfl (.tmp 24) (.tmp 26) 59 2 (.int .i64 0) 8 rfl Try.underlying59 info2 rfl (by decide) (by omega) u5 x5_1 x12_1 [.int .i64 x12_1] (fun _=>True) (fun _=>False) rfl rfl ?aP (fun _ hk=>hk.elim) ?aF ?aO ?aB ?aS ?aL ?_;(case aP=>exact rfl);(case aB=>exact (by repeat (first|(with_reducible first|exact HB.out|apply bA_|apply bN_|apply bD_|refine bS_ ?_ GE388.out|refine bS_ ?_ GE393.out)|exact HB.out)));(case aF=>exact (fun _ _=>trivial));(case aO=>exact (by (with_reducible repeat (first|apply Kd.R_alloc|apply Kd.R_drewN|apply Kd.R_drew));exact HO_5.out));(case aS=>exact (below_size (by repeat (first|(with_reducible first|exact HB.out|apply bA_|apply bN_|apply bD_|refine bS_ ?_ GE388.out|refine bS_ ?_ GE393.out)|exact HB.out))));(case aL=>have:=LMc14.out;omega);intro v397 w21 ho hb hg hat;rw [← Ny396.out] at ho;have n0_:=am_ (blk_grown (g:=gb388) (o:=.cells #[.int .i8 a0_0,.int .i8 a0_1,.slice (some ad392) l0_2.length c0_2] 30 (0,0)) (by (with_reducible repeat (first|apply kN_|apply kD_|apply kA_));exact BK388.out) hg (Kd.R_ne HO_5.out BK388.out (by decide)));have n1_:=am_ (blk_grown (g:=gb393) (o:=.cells #[.int .i8 ((rd_T38 l0_2 x12_1).f0),.int .i8 ((rd_T38 l0_2 x12_1).f1),.int .i8 ((rd_T38 l0_2 x12_1).f2),.int .i8 ((rd_T38 l0_2 x12_1).f3)] 38 (0,0)) (by (with_reducible repeat (first|apply kN_|apply kD_|apply kA_));exact BK393.out) hg (Kd.R_ne HO_5.out BK393.out (by decide)));have n2_:=am_ (hb);have n3_:=am_ (ho);clear BK388;clear BK393;clear HB;clear HO_5;have BK388:=n0_;have BK393:=n1_;have HB:=n2_;have HO398:=n3_;clear n0_ n1_ n2_ n3_;clear ho hb hg hat))
          go_roundg k1
          case measure=>have:=HK1.out;omega
          case rel=>exact ⟨(y396),(wrap64 (x12_1 + 1)),(by first|rfl|(simp;done)|(simp [*];done)),H',⟨by have:=HK1.out;omega⟩,⟨by (with_reducible repeat (first|apply Kd.R_alloc|apply Kd.R_drewN|apply Kd.R_drew));exact HO398.out⟩,⟨by (with_reducible repeat (first|apply kN_|apply kD_|apply kA_));exact BK388.out⟩,⟨by repeat (first|(with_reducible first|exact HB.out|apply bA_|apply bN_|apply bD_|refine bS_ ?_ GE388.out|refine bS_ ?_ GE393.out)|exact HB.out)⟩⟩
         ·
          rw [if_neg c14] at H;exact absurd H (by simp)
        ·
         replace c13:=Bool.eq_false_iff.mpr c13;subst c13;have H1 : (impl_Square_beside.l0 k1 a1 x5_1 l0_2 (l0_2.length : Int) (wrap64 (x12_1 + 1)) a0_0 a0_1 l0_2) = some r:=by rw [if_neg (show ¬ (false = true) by decide)] at H;exact H
         clear H;have H:=H1;clear H1;have H':=am_ H;clear H;have p392 : 0≤(x12_1 : Int):=od_ (by first|(with_reducible assumption)|assumption);have q392 : x12_1 < (l0_2.length : Int):=od_ (by first|(with_reducible assumption)|assumption);obtain ⟨ad392,e392,hx392_0,hx392_1,hx392_2,hx392_3⟩:=at_T38 HR0_2.out x12_1 p392 q392
         cases e392
         replace hx392_0:=(HB.out.cell (bl_ w _ hx392_0)).trans hx392_0;replace hx392_1:=(HB.out.cell (bl_ w _ hx392_1)).trans hx392_1;replace hx392_2:=(HB.out.cell (bl_ w _ hx392_2)).trans hx392_2;replace hx392_3:=(HB.out.cell (bl_ w _ hx392_3)).trans hx392_3;replace p392:=eq_true p392;replace q392:=eq_true q392
         try go_wp2_with (first|((with_reducible refine gate_dst (N:=7) rfl ?_);refine box_event ?hg (N:=7) ?hd (cs:=#[.int .i8 0,.int .i8 0,.int .i8 0,.int .i8 0]) (t:=38) ?hr ?_;(case hd=>rfl);(case hg=>rfl);(case hr=>first|(go_simp;done)|(go_simp;rfl));intro gb393 hg w22 hbox hb;have n0_:=am_ (Kd.R_below (by (with_reducible repeat (first|apply Kd.R_alloc|apply Kd.R_drewN|apply Kd.R_drew));exact HO_5.out) hb);have n1_:=am_ (blk_below (g:=gb388) (o:=.cells #[.int .i8 a0_0,.int .i8 a0_1,.slice (some ad392) l0_2.length c0_2] 30 (0,0)) (by (with_reducible repeat (first|apply kN_|apply kD_|apply kA_));exact BK388.out) hb);have n2_:=am_ (bT_ (by repeat (first|(with_reducible first|exact HB.out|apply bA_|apply bN_|apply bD_|refine bS_ ?_ GE388.out)|exact HB.out)) hb);have n3_:=am_ (hbox);have n4_:=am_ ((by rw [hg];exact (below_size (by repeat (first|(with_reducible first|exact HB.out|apply bA_|apply bN_|apply bD_|refine bS_ ?_ GE388.out)|exact HB.out))) : w.heap.size≤gb393));have n5_:=n4_;have n6_:=am_ ((by rw [hg];exact Nat.ne_of_lt (blk_lt (g:=gb388) (o:=.cells #[.int .i8 a0_0,.int .i8 a0_1,.slice (some ad392) l0_2.length c0_2] 30 (0,0)) (by (with_reducible repeat (first|apply kN_|apply kD_|apply kA_));exact BK388.out)) : gb388 ≠ gb393));have n7_:=am_ ((by rw [hg];exact Nat.ne_of_gt (blk_lt (g:=gb388) (o:=.cells #[.int .i8 a0_0,.int .i8 a0_1,.slice (some ad392) l0_2.length c0_2] 30 (0,0)) (by (with_reducible repeat (first|apply kN_|apply kD_|apply kA_));exact BK388.out)) : gb393 ≠ gb388));clear HO_5;clear BK388;clear HB;have HO_5:=n0_;have BK388:=n1_;have HB:=n2_;have BK393:=n3_;have GW393:=n4_;have GE393:=n5_;have NB388_393:=n6_;have NB393_388:=n7_;clear n0_ n1_ n2_ n3_ n4_ n5_ n6_ n7_;clear hb hbox hg;have hnb23:=NB393_388.out;have hnc23:=NB388_393.out;have hcz24_0 : w22.cell? ⟨gb393,0,none⟩ = some (.int .i8 0):=(kC_ BK393.out 0).trans rfl;have hcz24_1 : w22.cell? ⟨gb393,1,none⟩ = some (.int .i8 0):=(kC_ BK393.out 1).trans rfl;have hcz24_2 : w22.cell? ⟨gb393,2,none⟩ = some (.int .i8 0):=(kC_ BK393.out 2).trans rfl;have hcz24_3 : w22.cell? ⟨gb393,3,none⟩ = some (.int .i8 0):=(kC_ BK393.out 3).trans rfl;have hfz24_0:=kF_ BK393.out 0;have hfz24_1:=kF_ BK393.out 1;have hfz24_2:=kF_ BK393.out 2;have hfz24_3:=kF_ BK393.out 3))
         have n0_ : Aside0 (Kd.R (Kd.int .i64) 2 ((((w22.setCell ⟨gb393,0,none⟩ (.int .i8 ((rd_T38 l0_2 x12_1).f0))).setCell ⟨gb393,1,none⟩ (.int .i8 ((rd_T38 l0_2 x12_1).f1))).setCell ⟨gb393,2,none⟩ (.int .i8 ((rd_T38 l0_2 x12_1).f2))).setCell ⟨gb393,3,none⟩ (.int .i8 ((rd_T38 l0_2 x12_1).f3))) w.heap.size (fun _=>True) u5 x5_1):=⟨by (with_reducible repeat (first|apply Kd.R_alloc|apply Kd.R_drewN|apply Kd.R_drew));exact Kd.R_mono (Kd.R_far (p:=⟨gb393,3,none⟩) (Kd.R_far (p:=⟨gb393,2,none⟩) (Kd.R_far (p:=⟨gb393,1,none⟩) (Kd.R_far (p:=⟨gb393,0,none⟩) (Kd.R_types HO_5.out BK393.out (by decide)) (fun _ hk=>hk.2) (.int .i8 ((rd_T38 l0_2 x12_1).f0))) (fun _ hk=>hk.2) (.int .i8 ((rd_T38 l0_2 x12_1).f1))) (fun _ hk=>hk.2) (.int .i8 ((rd_T38 l0_2 x12_1).f2))) (fun _ hk=>hk.2) (.int .i8 ((rd_T38 l0_2 x12_1).f3))) (fun _ hk=>trivial)⟩
         have n1_ : Aside0 (((((w22.setCell ⟨gb393,0,none⟩ (.int .i8 ((rd_T38 l0_2 x12_1).f0))).setCell ⟨gb393,1,none⟩ (.int .i8 ((rd_T38 l0_2 x12_1).f1))).setCell ⟨gb393,2,none⟩ (.int .i8 ((rd_T38 l0_2 x12_1).f2))).setCell ⟨gb393,3,none⟩ (.int .i8 ((rd_T38 l0_2 x12_1).f3))).heap[gb388]? = some (.cells #[.int .i8 a0_0,.int .i8 a0_1,.slice (some ad392) l0_2.length c0_2] 30 (0,0))):=⟨by (with_reducible repeat (first|apply kN_|apply kD_|apply kA_));refine blk_far ?_ NB388_393.out _;(with_reducible repeat (first|apply kN_|apply kD_|apply kA_));refine blk_far ?_ NB388_393.out _;(with_reducible repeat (first|apply kN_|apply kD_|apply kA_));refine blk_far ?_ NB388_393.out _;(with_reducible repeat (first|apply kN_|apply kD_|apply kA_));refine blk_far ?_ NB388_393.out _;(with_reducible repeat (first|apply kN_|apply kD_|apply kA_));exact BK388.out⟩
         have n2_ : Aside0 (((((w22.setCell ⟨gb393,0,none⟩ (.int .i8 ((rd_T38 l0_2 x12_1).f0))).setCell ⟨gb393,1,none⟩ (.int .i8 ((rd_T38 l0_2 x12_1).f1))).setCell ⟨gb393,2,none⟩ (.int .i8 ((rd_T38 l0_2 x12_1).f2))).setCell ⟨gb393,3,none⟩ (.int .i8 ((rd_T38 l0_2 x12_1).f3))).heap[gb393]? = some (.cells #[.int .i8 ((rd_T38 l0_2 x12_1).f0),.int .i8 ((rd_T38 l0_2 x12_1).f1),.int .i8 ((rd_T38 l0_2 x12_1).f2),.int .i8 ((rd_T38 l0_2 x12_1).f3)] 38 (0,0))):=⟨by (with_reducible repeat (first|apply kN_|apply kD_|apply kA_));refine blk_put (cs:=#[.int .i8 ((rd_T38 l0_2 x12_1).f0),.int .i8 ((rd_T38 l0_2 x12_1).f1),.int .i8 ((rd_T38 l0_2 x12_1).f2),.int .i8 0]) ?_ 3 _ rfl;(with_reducible repeat (first|apply kN_|apply kD_|apply kA_));refine blk_put (cs:=#[.int .i8 ((rd_T38 l0_2 x12_1).f0),.int .i8 ((rd_T38 l0_2 x12_1).f1),.int .i8 0,.int .i8 0]) ?_ 2 _ rfl;(with_reducible repeat (first|apply kN_|apply kD_|apply kA_));refine blk_put (cs:=#[.int .i8 ((rd_T38 l0_2 x12_1).f0),.int .i8 0,.int .i8 0,.int .i8 0]) ?_ 1 _ rfl;(with_reducible repeat (first|apply kN_|apply kD_|apply kA_));refine blk_put (cs:=#[.int .i8 0,.int .i8 0,.int .i8 0,.int .i8 0]) ?_ 0 _ rfl;(with_reducible repeat (first|apply kN_|apply kD_|apply kA_));exact BK393.out⟩
         have n3_ : Aside0 (Below w.heap.size w ((((w22.setCell ⟨gb393,0,none⟩ (.int .i8 ((rd_T38 l0_2 x12_1).f0))).setCell ⟨gb393,1,none⟩ (.int .i8 ((rd_T38 l0_2 x12_1).f1))).setCell ⟨gb393,2,none⟩ (.int .i8 ((rd_T38 l0_2 x12_1).f2))).setCell ⟨gb393,3,none⟩ (.int .i8 ((rd_T38 l0_2 x12_1).f3)))):=⟨by repeat (first|(with_reducible first|exact HB.out|apply bA_|apply bN_|apply bD_|refine bS_ ?_ GE388.out|refine bS_ ?_ GE393.out)|exact HB.out)⟩
         (try clear HO_5);(try clear BK388);(try clear BK393);(try clear HB);generalize ((((w22.setCell ⟨gb393,0,none⟩ (.int .i8 ((rd_T38 l0_2 x12_1).f0))).setCell ⟨gb393,1,none⟩ (.int .i8 ((rd_T38 l0_2 x12_1).f1))).setCell ⟨gb393,2,none⟩ (.int .i8 ((rd_T38 l0_2 x12_1).f2))).setCell ⟨gb393,3,none⟩ (.int .i8 ((rd_T38 l0_2 x12_1).f3))) = w25 at n0_ n1_ n2_ n3_ ⊢;have HO_5:=n0_;have BK388:=n1_;have BK393:=n2_;have HB:=n3_;clear n0_ n1_ n2_ n3_;have n0_:=am_ (Kd.R_drew HO_5.out);have n1_:=am_ (kD_ BK388.out);have n2_:=am_ (kD_ BK393.out);have n3_:=am_ (bD_ HB.out);clear HO_5;clear BK388;clear BK393;clear HB;have HO_5:=n0_;have BK388:=n1_;have BK393:=n2_;have HB:=n3_;clear n0_ n1_ n2_ n3_;have p394 : 0≤(a1 : Int):=od_ (by first|(with_reducible assumption)|assumption);have q394 : a1 < (l0_2.length : Int):=od_ (by first|(with_reducible assumption)|assumption);obtain ⟨ad394,e394,hx394_0,hx394_1,hx394_2,hx394_3⟩:=at_T38 HR0_2.out a1 p394 q394;have hw394_3:=hx394_3;have hw394_2:=hx394_2;have hw394_1:=hx394_1;have hw394_0:=hx394_0;obtain rfl : ad392 = ad394:=(by injection e394)
         replace hx394_0:=(HB.out.cell (bl_ w _ hx394_0)).trans hx394_0;replace hx394_1:=(HB.out.cell (bl_ w _ hx394_1)).trans hx394_1;replace hx394_2:=(HB.out.cell (bl_ w _ hx394_2)).trans hx394_2;replace hx394_3:=(HB.out.cell (bl_ w _ hx394_3)).trans hx394_3;replace p394:=eq_true p394;replace q394:=eq_true q394;refine start_ (n:=7) (S:=fun w'=>w'.cell? ⟨gb388,0,none⟩ = some (.int .i8 a0_0) ∧ w'.cell? ⟨gb388,1,none⟩ = some (.int .i8 a0_1) ∧ w'.cell? ⟨gb388,2,none⟩ = some (.slice (some ad392) l0_2.length c0_2) ∧ w'.cell? ⟨gb393,0,none⟩ = some (.int .i8 ((rd_T38 l0_2 x12_1).f0)) ∧ w'.cell? ⟨gb393,1,none⟩ = some (.int .i8 ((rd_T38 l0_2 x12_1).f1)) ∧ w'.cell? ⟨gb393,2,none⟩ = some (.int .i8 ((rd_T38 l0_2 x12_1).f2)) ∧ w'.cell? ⟨gb393,3,none⟩ = some (.int .i8 ((rd_T38 l0_2 x12_1).f3)) ∧ w'.cell? (ad392.add ((a1).toNat * 4)) = some (.int .i8 ((rd_T38 l0_2 a1).f0)) ∧ w'.cell? ⟨(ad392.add ((a1).toNat * 4)).block,(ad392.add ((a1).toNat * 4)).off + 1,none⟩ = some (.int .i8 ((rd_T38 l0_2 a1).f1)) ∧ w'.cell? ⟨(ad392.add ((a1).toNat * 4)).block,(ad392.add ((a1).toNat * 4)).off + 2,none⟩ = some (.int .i8 ((rd_T38 l0_2 a1).f2)) ∧ w'.cell? ⟨(ad392.add ((a1).toNat * 4)).block,(ad392.add ((a1).toNat * 4)).off + 3,none⟩ = some (.int .i8 ((rd_T38 l0_2 a1).f3))) (ds:=[]) (mB_ 7 0) (by kernel_rfl) rfl rfl ⟨(kC_ BK388.out 0).trans rfl,(kC_ BK388.out 1).trans rfl,(kC_ BK388.out 2).trans rfl,(kC_ BK393.out 0).trans rfl,(kC_ BK393.out 1).trans rfl,(kC_ BK393.out 2).trans rfl,(kC_ BK393.out 3).trans rfl,((HB.out.cell (bl_ w _ hw394_0)).trans hw394_0),((HB.out.cell (bl_ w _ hw394_1)).trans hw394_1),((HB.out.cell (bl_ w _ hw394_2)).trans hw394_2),((HB.out.cell (bl_ w _ hw394_3)).trans hw394_3)⟩ (fun hHeld=>?_);generalize w25.drew = w26 at HO_5 BK388 BK393 HB hx394_0 hx394_1 hx394_2 hx394_3 hHeld ⊢;refine pure_ (i:=0) (N:=some 17) (v:=?_) (a':=?_) (mB_ 7 1) rfl rfl (by kernel_rfl) (fun _ _ _ h=>h) (Or.inl ⟨by rfl,?_⟩) ?_ ?_;rotate_left
         ·
          intro w'
          go_simp
          with_reducible rfl
         rotate_left
         ·
          simp only [Act.put,z1_,z2_,z3_,i64_w,i32_w]
          rfl
         refine pure_ (i:=2) (N:=some 19) (v:=?_) (a':=?_) (mB_ 7 5) rfl rfl (by kernel_rfl) (fun _ _ _ h=>h) (Or.inl ⟨by rfl,?_⟩) ?_ ?_;rotate_left
         ·
          intro w'
          go_simp
          with_reducible rfl
         rotate_left
         ·
          simp only [Act.put,z1_,z2_,z3_,i64_w,i32_w]
          rfl
         refine take_ (i:=1) (N:=some 18) (v:=?_) (a':=?_) (mB_ 7 7) rfl rfl (by kernel_rfl) (fun _ _ _ h=>h) (Or.inl ⟨by rfl,?_⟩) hHeld ?_ ?_;rotate_left
         ·
          rintro w' ⟨s0,s1,s2,s3,s4,s5,s6,s7,s8,s9,s10⟩
          go_simp
          with_reducible rfl
         rotate_left
         ·
          simp only [Act.put,z1_,z2_,z3_,i64_w,i32_w]
          rfl
         refine pure_ (i:=3) (N:=some 20) (v:=?_) (a':=?_) (mB_ 7 15) rfl rfl (by kernel_rfl) (fun _ _ _ h=>h) (Or.inl ⟨by rfl,?_⟩) ?_ ?_;rotate_left
         ·
          intro w'
          go_simp
          with_reducible rfl
         rotate_left
         ·
          simp only [Act.put,z1_,z2_,z3_,i64_w,i32_w]
          rfl
         refine take_ (i:=4) (N:=some 21) (v:=?_) (a':=?_) (mB_ 7 31) rfl rfl (by kernel_rfl) (fun _ _ _ h=>h) (Or.inl ⟨by rfl,?_⟩) hHeld ?_ ?_;rotate_left
         ·
          rintro w' ⟨s0,s1,s2,s3,s4,s5,s6,s7,s8,s9,s10⟩
          go_simp
          with_reducible rfl
         rotate_left
         ·
          simp only [Act.put,z1_,z2_,z3_,i64_w,i32_w]
          rfl
         refine take_ (i:=5) (N:=some 22) (v:=?_) (a':=?_) (mB_ 7 63) rfl rfl (by kernel_rfl) (fun _ _ _ h=>h) (Or.inl ⟨by rfl,?_⟩) hHeld ?_ ?_;rotate_left
         ·
          rintro w' ⟨s0,s1,s2,s3,s4,s5,s6,s7,s8,s9,s10⟩
          go_simp
          with_reducible rfl
         rotate_left
         ·
          simp only [Act.put,z1_,z2_,z3_,i64_w,i32_w]
          rfl
         refine one_ (i:=6) (N:=some 23) (mB_ 7 127) rfl rfl (by kernel_rfl) (by decide) (fun K hK=>?_);refine goes_ Try.func91 (by kernel_rfl) rfl #[.agg #[.int .i8 ((rd_T38 l0_2 a1).f0),.int .i8 ((rd_T38 l0_2 a1).f1),.int .i8 ((rd_T38 l0_2 a1).f2),.int .i8 ((rd_T38 l0_2 a1).f3)],.agg #[.int .i8 ((rd_T38 l0_2 x12_1).f0),.int .i8 ((rd_T38 l0_2 x12_1).f1),.int .i8 ((rd_T38 l0_2 x12_1).f2),.int .i8 ((rd_T38 l0_2 x12_1).f3)]] (by rfl) rfl rfl (by (try simp only [List.map_toArray,List.map_cons,List.map_nil]);first|done|rfl|(simp only [List.length_drop,List.length_take];rfl)) ?_
         with_reducible refine (impl_areBeside.calls ((rd_T38 l0_2 a1).f0) ((rd_T38 l0_2 a1).f1) ((rd_T38 l0_2 a1).f2) ((rd_T38 l0_2 a1).f3) ((rd_T38 l0_2 x12_1).f0) ((rd_T38 l0_2 x12_1).f1) ((rd_T38 l0_2 x12_1).f2) ((rd_T38 l0_2 x12_1).f3) false _ A12.out).mono ?_
         rintro e w27 ⟨rfl,hb⟩;refine ⟨_,rfl,?_⟩;have n0_:=am_ (Kd.R_below (by (with_reducible repeat (first|apply Kd.R_alloc|apply Kd.R_drewN|apply Kd.R_drew));exact HO_5.out) hb);have n1_:=am_ (blk_below (g:=gb388) (o:=.cells #[.int .i8 a0_0,.int .i8 a0_1,.slice (some ad392) l0_2.length c0_2] 30 (0,0)) (by (with_reducible repeat (first|apply kN_|apply kD_|apply kA_));exact BK388.out) hb);have n2_:=am_ (blk_below (g:=gb393) (o:=.cells #[.int .i8 ((rd_T38 l0_2 x12_1).f0),.int .i8 ((rd_T38 l0_2 x12_1).f1),.int .i8 ((rd_T38 l0_2 x12_1).f2),.int .i8 ((rd_T38 l0_2 x12_1).f3)] 38 (0,0)) (by (with_reducible repeat (first|apply kN_|apply kD_|apply kA_));exact BK393.out) hb);have n3_:=am_ (bT_ (by repeat (first|(with_reducible first|exact HB.out|apply bA_|apply bN_|apply bD_|refine bS_ ?_ GE388.out|refine bS_ ?_ GE393.out)|exact HB.out)) hb);clear HO_5;clear BK388;clear BK393;clear HB;have HO_5:=n0_;have BK388:=n1_;have BK393:=n2_;have HB:=n3_;clear n0_ n1_ n2_ n3_;(try clear hb);(try clear hb2);(try clear hk);(try clear hi);refine hK.out _ _ ⟨(kC_ BK388.out 0).trans rfl,(kC_ BK388.out 1).trans rfl,(kC_ BK388.out 2).trans rfl,(kC_ BK393.out 0).trans rfl,(kC_ BK393.out 1).trans rfl,(kC_ BK393.out 2).trans rfl,(kC_ BK393.out 3).trans rfl,((HB.out.cell (bl_ w _ hw394_0)).trans hw394_0),((HB.out.cell (bl_ w _ hw394_1)).trans hw394_1),((HB.out.cell (bl_ w _ hw394_2)).trans hw394_2),((HB.out.cell (bl_ w _ hw394_3)).trans hw394_3)⟩ (fun hHeld=>?_);clear hK K;refine norm_ (a':=?_) ?_ ?_;rotate_left
         ·
          show Act.put _ (some 23) _ = _
          simp only [Act.put,z1_,z2_,z3_,i64_w,i32_w]
          rfl
         refine done_ (by kernel_rfl) ?_
         try go_wp2
         go_roundg k1
         case measure=>have:=HK1.out;omega
         case rel=>exact ⟨(x5_1),(wrap64 (x12_1 + 1)),(by first|rfl|(simp;done)|(simp [*];done)),H',⟨by have:=HK1.out;omega⟩,⟨by (with_reducible repeat (first|apply Kd.R_alloc|apply Kd.R_drewN|apply Kd.R_drew));exact HO_5.out⟩,⟨by (with_reducible repeat (first|apply kN_|apply kD_|apply kA_));exact BK388.out⟩,⟨by repeat (first|(with_reducible first|exact HB.out|apply bA_|apply bN_|apply bD_|refine bS_ ?_ GE388.out|refine bS_ ?_ GE393.out)|exact HB.out)⟩⟩
       ·
        rw [if_neg c11] at H;exact absurd H (by simp)
      ·
       rw [if_neg c10] at H;exact absurd H (by simp)
     ·
      rw [if_neg c9] at H;exact absurd H (by simp)
    ·
     rw [if_neg c8] at H;exact absurd H (by simp)
   ·
    rw [if_neg c7] at H;have c7b0 : decide (x12_1 < (l0_2.length : Int)) = false:=decide_eq_false c7;clear c7;obtain rfl:=Option.some.inj H
    go_wp2
    go_ret
    exact ⟨_,by first|rfl|(simp [errW_none,errW_some] <;> rfl)|(simp [*,errW_none,errW_some] <;> rfl),by (with_reducible repeat (first|apply Kd.R_alloc|apply Kd.R_drewN|apply Kd.R_drew));exact HO_5.out,by repeat (first|(with_reducible first|exact HB.out|apply bA_|apply bN_|apply bD_|refine bS_ ?_ GE388.out)|exact HB.out)⟩
end Go.Proofs.Ytanpafadehnhlaa.Q
