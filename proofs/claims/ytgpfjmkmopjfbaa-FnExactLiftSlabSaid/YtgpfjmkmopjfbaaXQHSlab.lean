-- Trimmed by a program.
import Derived.Test.YtgpfjmkmopjfbaaXQ0
namespace Go.Proofs.Ytgpfjmkmopjfbaa.Q
open RowKit YtgpfjmkmopjfbaaW.PrintWords YtgpfjmkmopjfbaaW.PrintLast YtgpfjmkmopjfbaaW.PrintMore
attribute [local go_sem] max2_int min2_int max_two min_two max_three min_three max_four min_four
set_option linter.unusedVariables false
set_option linter.unusedSimpArgs false
def laws_szSlabS.f (l0 : List (S77)) (a1 : Int) : Option (Int) := if (wrap64 (a1 - (l0.length : Int))) < 0 then (some (-1)) else (some (wrap64 (a1 - (l0.length : Int))))
set_option maxHeartbeats 8000000 in
set_option maxRecDepth 100000 in
theorem laws_szSlabS.calls (A0 : Option Addr) (c0 : Nat) (l0 : List (S77)) (a1 : Int) (r : Int) (w : World) (hr0 : Kd.C k77 w A0 l0.length l0) (hc0 : l0.length ≤ c0) (h : laws_szSlabS.f l0 a1 = some r) :
  Calls Try.prog 18 #[.slice A0 l0.length c0,.int .i64 a1] w fun e w'=>e = .returned (.int .i64 r) ∧ Drawn0 w w':=by
 have HR0:=am_ hr0;have HC0:=am_ hc0;clear hr0 hc0;have H : (if (wrap64 (a1 - (l0.length : Int))) < 0 then (some (-1)) else (some (wrap64 (a1 - (l0.length : Int))))) = some r:=h;clear h
 by_cases c3 : (wrap64 (a1 - (l0.length : Int))) < 0
 ·
  rw [if_pos c3] at H;have c3b0 : decide ((wrap64 (a1 - (l0.length : Int))) < 0) = true:=decide_eq_true c3;clear c3;obtain rfl:=Option.some.inj H
  go_enter Try.func18,Try.ntmps18
  go_wp2
  go_ret
  exact ⟨by first|rfl|(simp;done)|(simp [*];done),by repeat (first|exact Drawn0.refl _|apply Drawn0.step)⟩
 ·
  rw [if_neg c3] at H;have c3b0 : decide ((wrap64 (a1 - (l0.length : Int))) < 0) = false:=decide_eq_false c3;clear c3;obtain rfl:=Option.some.inj H
  go_enter Try.func18,Try.ntmps18
  go_wp2
  go_ret
  exact ⟨by first|rfl|(simp;done)|(simp [*];done),by repeat (first|exact Drawn0.refl _|apply Drawn0.step)⟩
def laws_toSlab.f (a0_0 : Int) (a0_1 : Int) (a0_2 : Int) (a0_3 : Int) : Option (Int × Int × Int × Int) := some (a0_0, a0_1, a0_2, a0_3)
set_option maxHeartbeats 8000000 in
set_option maxRecDepth 100000 in
theorem laws_toSlab.calls (a0_0 : Int) (a0_1 : Int) (a0_2 : Int) (a0_3 : Int) (r1 : Int) (r2 : Int) (r3 : Int) (r4 : Int) (w : World) (h : laws_toSlab.f a0_0 a0_1 a0_2 a0_3 = some (r1, r2, r3, r4)) :
  Calls Try.prog 41 #[.agg #[.int .i8 a0_0,.int .i8 a0_1,.int .i8 a0_2,.int .i8 a0_3]] w fun e w'=>e = .returned (.agg #[.int .i8 r1,.int .i8 r2,.int .i8 r3,.int .i8 r4]) ∧ Below w.heap.size w w':=by
 have hu77:=Try.underlying77;have hu31:=Try.underlying31;have HB:=am_ (Below.refl w.heap.size w);have H : (some (a0_0,a0_1,a0_2,a0_3)) = some (r1,r2,r3,r4):=h;clear h;simp only [Option.some.injEq,Prod.mk.injEq] at H;obtain ⟨rfl,rfl,rfl,rfl⟩:=H
 go_enter Try.func41,Try.ntmps41
 go_wp2_with (first|((with_reducible refine gate_dst (N:=1) rfl ?_);refine box_event ?hg (N:=1) ?hd (cs:=#[.int .i8 a0_0,.int .i8 a0_1,.int .i8 a0_2,.int .i8 a0_3]) (t:=77) ?hr ?_;(case hd=>rfl);(case hg=>rfl);(case hr=>first|(go_simp;done)|(go_simp;rfl));intro gb165 hg w2 hbox hb;have n0_:=am_ (bT_ HB.out hb);have n1_:=am_ (hbox);have n2_:=am_ ((by rw [hg];exact (bZ_ HB.out) : w.heap.size≤gb165));have n3_:=n2_;clear HB;have HB:=n0_;have BK165:=n1_;have GW165:=n2_;have GE165:=n3_;clear n0_ n1_ n2_ n3_;clear hb hbox hg)|((with_reducible refine gate_dst (N:=2) rfl ?_);refine box_event ?hg (N:=2) ?hd (cs:=#[.int .i8 0,.int .i8 0,.int .i8 0,.int .i8 0]) (t:=31) ?hr ?_;(case hd=>rfl);(case hg=>rfl);(case hr=>first|(go_simp;done)|(go_simp;rfl));intro gb166 hg w3 hbox hb;have n0_:=am_ (kB_ BK165.out hb);have n1_:=am_ (bT_ HB.out hb);have n2_:=am_ (hbox);have n3_:=am_ ((by rw [hg];exact (bZ_ HB.out) : w.heap.size≤gb166));have n4_:=n3_;have n5_:=am_ ((by rw [hg];exact nL_ (kL_ BK165.out) : gb165 ≠ gb166));have n6_:=am_ ((by rw [hg];exact nG_ (kL_ BK165.out) : gb166 ≠ gb165));clear BK165;clear HB;have BK165:=n0_;have HB:=n1_;have BK166:=n2_;have GW166:=n3_;have GE166:=n4_;have NB165_166:=n5_;have NB166_165:=n6_;clear n0_ n1_ n2_ n3_ n4_ n5_ n6_;clear hb hbox hg)|((with_reducible refine gate_dst (N:=3) rfl ?_);refine box_event ?hg (N:=3) ?hd (cs:=#[.int .i8 0,.int .i8 0,.int .i8 0,.int .i8 0]) (t:=31) ?hr ?_;(case hd=>rfl);(case hg=>rfl);(case hr=>first|(go_simp;done)|(go_simp;rfl));intro gb167 hg w4 hbox hb;have n0_:=am_ (kB_ BK165.out hb);have n1_:=am_ (kB_ BK166.out hb);have n2_:=am_ (bT_ HB.out hb);have n3_:=am_ (hbox);have n4_:=am_ ((by rw [hg];exact (bZ_ HB.out) : w.heap.size≤gb167));have n5_:=n4_;have n6_:=am_ ((by rw [hg];exact nL_ (kL_ BK165.out) : gb165 ≠ gb167));have n7_:=am_ ((by rw [hg];exact nG_ (kL_ BK165.out) : gb167 ≠ gb165));have n8_:=am_ ((by rw [hg];exact nL_ (kL_ BK166.out) : gb166 ≠ gb167));have n9_:=am_ ((by rw [hg];exact nG_ (kL_ BK166.out) : gb167 ≠ gb166));clear BK165;clear BK166;clear HB;have BK165:=n0_;have BK166:=n1_;have HB:=n2_;have BK167:=n3_;have GW167:=n4_;have GE167:=n5_;have NB165_167:=n6_;have NB167_165:=n7_;have NB166_167:=n8_;have NB167_166:=n9_;clear n0_ n1_ n2_ n3_ n4_ n5_ n6_ n7_ n8_ n9_;clear hb hbox hg;have hnb5:=NB165_166.out;have hnc5:=NB166_165.out;have hnb6:=NB165_167.out;have hnc6:=NB167_165.out;have hcz7_0 : w4.cell? ⟨gb165,0,none⟩ = some (.int .i8 a0_0):=(kC_ BK165.out 0).trans rfl;have hcz7_1 : w4.cell? ⟨gb165,1,none⟩ = some (.int .i8 a0_1):=(kC_ BK165.out 1).trans rfl;have hcz7_2 : w4.cell? ⟨gb165,2,none⟩ = some (.int .i8 a0_2):=(kC_ BK165.out 2).trans rfl;have hcz7_3 : w4.cell? ⟨gb165,3,none⟩ = some (.int .i8 a0_3):=(kC_ BK165.out 3).trans rfl;have hfz7_0:=kF_ BK165.out 0;have hfz7_1:=kF_ BK165.out 1;have hfz7_2:=kF_ BK165.out 2;have hfz7_3:=kF_ BK165.out 3;have hnb8:=NB167_166.out;have hnc8:=NB166_167.out;have hcz9_0 : w4.cell? ⟨gb167,0,none⟩ = some (.int .i8 0):=(kC_ BK167.out 0).trans rfl;have hcz9_1 : w4.cell? ⟨gb167,1,none⟩ = some (.int .i8 0):=(kC_ BK167.out 1).trans rfl;have hcz9_2 : w4.cell? ⟨gb167,2,none⟩ = some (.int .i8 0):=(kC_ BK167.out 2).trans rfl;have hcz9_3 : w4.cell? ⟨gb167,3,none⟩ = some (.int .i8 0):=(kC_ BK167.out 3).trans rfl;have hfz9_0:=kF_ BK167.out 0;have hfz9_1:=kF_ BK167.out 1;have hfz9_2:=kF_ BK167.out 2;have hfz9_3:=kF_ BK167.out 3;have hcz10_0 : w4.cell? ⟨gb166,0,none⟩ = some (.int .i8 0):=(kC_ BK166.out 0).trans rfl;have hcz10_1 : w4.cell? ⟨gb166,1,none⟩ = some (.int .i8 0):=(kC_ BK166.out 1).trans rfl;have hcz10_2 : w4.cell? ⟨gb166,2,none⟩ = some (.int .i8 0):=(kC_ BK166.out 2).trans rfl;have hcz10_3 : w4.cell? ⟨gb166,3,none⟩ = some (.int .i8 0):=(kC_ BK166.out 3).trans rfl;have hfz10_0:=kF_ BK166.out 0;have hfz10_1:=kF_ BK166.out 1;have hfz10_2:=kF_ BK166.out 2;have hfz10_3:=kF_ BK166.out 3))
 refine bodyPost_ret (results_cell_row rfl _ _ gb166 31 #[.int .i8 a0_0,.int .i8 a0_1,.int .i8 a0_2,.int .i8 a0_3] (0,0) _ rfl (by (with_reducible repeat (first|apply kN_|apply kD_|apply kA_));refine blk_put (cs:=#[.int .i8 a0_0,.int .i8 a0_1,.int .i8 a0_2,.int .i8 0]) ?_ 3 _ rfl;(with_reducible repeat (first|apply kN_|apply kD_|apply kA_));refine blk_put (cs:=#[.int .i8 a0_0,.int .i8 a0_1,.int .i8 0,.int .i8 0]) ?_ 2 _ rfl;(with_reducible repeat (first|apply kN_|apply kD_|apply kA_));refine blk_put (cs:=#[.int .i8 a0_0,.int .i8 0,.int .i8 0,.int .i8 0]) ?_ 1 _ rfl;(with_reducible repeat (first|apply kN_|apply kD_|apply kA_));refine blk_put (cs:=#[.int .i8 0,.int .i8 0,.int .i8 0,.int .i8 0]) ?_ 0 _ rfl;refine kX_ ?_ NB166_167.out _;refine kX_ ?_ NB166_167.out _;refine kX_ ?_ NB166_167.out _;refine kX_ ?_ NB166_167.out _;exact BK166.out) Try.underlying31 rfl (by kernel_rfl)) rfl ?_;exact ⟨by first|rfl|(simp [errW_none,errW_some] <;> rfl)|(simp [*,errW_none,errW_some] <;> rfl),by repeat (first|(with_reducible first|exact HB.out|apply bA_|apply bN_|apply bD_|refine bS_ ?_ GE165.out|refine bS_ ?_ GE166.out|refine bS_ ?_ GE167.out)|exact HB.out)⟩
def laws_toSlabS.l0 : Nat → List (S77) → List (S31) → Int → Option ((List (S31)))
 | 0,_,_,_=>none
 | k + 1,x0,x3,x4=>if x4 < (x0.length : Int) then (if 0≤x4 then ((laws_toSlab.f ((rd_T77 x0 x4).f0) ((rd_T77 x0 x4).f1) ((rd_T77 x0 x4).f2) ((rd_T77 x0 x4).f3)).bind fun bt172=>(if x4 < (x3.length : Int) then (laws_toSlabS.l0 k x0 (x3.set (x4 : Int).toNat (⟨bt172.1,bt172.2.1,bt172.2.2.1,bt172.2.2.2⟩ : S31)) (wrap64 (x4 + 1))) else (none))) else (none)) else (some x3)
def laws_toSlabS.f (k : Nat) (l0 : List (S77)) : Option ((List (S31))) := if 0 ≤ (l0.length : Int) then (if ((l0.length : Int) : Int).toNat ≤ 70368744177664 then (laws_toSlabS.l0 k l0 (List.replicate ((l0.length : Int) : Int).toNat z31) 0) else (none)) else (none)
theorem laws_toSlabS.mono_l : ∀ k, (∀ y0 y1 y2, LeO (laws_toSlabS.l0 k y0 y1 y2) (laws_toSlabS.l0 (k + 1) y0 y1 y2))
 | 0=>fun _ _ _ r h=>by simp [laws_toSlabS.l0] at h
 | k + 1=>by
  have ih0:=laws_toSlabS.mono_l k
  ·
   intro y0 y1 y2
   unfold laws_toSlabS.l0
   repeat' first
   | (with_reducible exact ih0 _ _ _)
   | (with_reducible exact LeO.refl _)
   | (with_reducible exact LeO.none _)
   | (with_reducible refine LeO.ite ?_ ?_)
   | (with_reducible refine LeO.bind ?_ (fun _=>?_))
   | exact ih0 _ _ _
   | exact LeO.none _
   | refine LeO.ite ?_ ?_
   | refine LeO.bind ?_ (fun _=>?_)
theorem laws_toSlabS.mono : ∀ a0 k, LeO (laws_toSlabS.f k a0) (laws_toSlabS.f (k + 1) a0) := by
 intro a0 k;have ih0:=laws_toSlabS.mono_l k
 unfold laws_toSlabS.f
 repeat' first
   | (with_reducible exact ih0 _ _ _)
   | (with_reducible exact LeO.refl _)
   | (with_reducible exact LeO.none _)
   | (with_reducible refine LeO.ite ?_ ?_)
   | (with_reducible refine LeO.bind ?_ (fun _=>?_))
   | exact ih0 _ _ _
   | exact LeO.none _
   | refine LeO.ite ?_ ?_
   | refine LeO.bind ?_ (fun _=>?_)
set_option maxHeartbeats 8000000 in
set_option maxRecDepth 100000 in
theorem laws_toSlabS.calls (k : Nat) (A0 : Option Addr) (c0 : Nat) (l0 : List (S77)) (r : List (S31)) (w : World) (hr0 : Kd.C k77 w A0 l0.length l0) (hc0 : l0.length ≤ c0) (h : laws_toSlabS.f k l0 = some r) :
  Calls Try.prog 22 #[.slice A0 l0.length c0] w fun e w'=>∃ v0_ : Value,e = .returned (v0_) ∧ Kd.R k31 31 w' w.heap.size (fun _=>True) v0_ r ∧ Below w.heap.size w w':=by
 have hu77:=Try.underlying77;have hu31:=Try.underlying31;have HR0:=am_ hr0;have HC0:=am_ hc0;clear hr0 hc0;have HB:=am_ (Below.refl w.heap.size w);have H : (if 0≤(l0.length : Int) then (if ((l0.length : Int) : Int).toNat≤70368744177664 then (laws_toSlabS.l0 k l0 (List.replicate ((l0.length : Int) : Int).toNat z31) 0) else (none)) else (none)) = some r:=h;clear h
 by_cases c2 : 0≤(l0.length : Int)
 ·
  rw [if_pos c2] at H;have c2b0:=eq_true c2;have c2b1 : decide (0≤(l0.length : Int)) = true:=decide_eq_true c2;clear c2
  by_cases c3 : ((l0.length : Int) : Int).toNat≤70368744177664
  ·
   rw [if_pos c3] at H;have c3b0:=eq_true c3;have c3b1 : decide (((l0.length : Int) : Int).toNat≤70368744177664) = true:=decide_eq_true c3;clear c3;obtain ⟨y168,hy168⟩ : ∃ y_ : List (S31),y_ = (List.replicate ((l0.length : Int) : Int).toNat z31):=⟨_,rfl⟩
   replace H : (laws_toSlabS.l0 k l0 y168 0) = some r:=by first|(rw [hy168];with_reducible exact H)|(have H2_:=(Option.bind_some _ _).symm.trans H;rw [hy168];with_reducible exact H2_)|(have H2_:=(Option.bind_some _ _).symm.trans H;with_reducible exact H2_)|with_reducible exact H|(rw [hy168];exact H)|exact H
   have Ny168:=am_ hy168;clear hy168;have H':=am_ H;clear H
   go_enter Try.func22,Try.ntmps22
   go_wp2_with (first|((with_reducible refine gate_dst (N:=7) rfl ?_);refine Kd.R_make k31 _ 31 rfl (N:=7) rfl 27 _ _ rfl (l0.length : Int) rfl rfl Try.underlying27 (.agg #[(.int .i8 0),(.int .i8 0),(.int .i8 0),(.int .i8 0)]) 4 info31 rfl (by decide) (by omega) z31 (ok:=fun _=>True) (okp:=fun _=>True) (k31_mkM _ _ _ z31 ) (fun _ hk=>hk) trivial (od_ (by first|(with_reducible assumption)|assumption)) (Nat.le_trans (Nat.mul_le_mul_right _ (od_ (by first|(with_reducible assumption)|assumption) : (l0.length : Int).toNat≤70368744177664)) (by omega)) (Below.refl _ _) (Nat.le_refl _) ?_;intro v169 w4 ho5 hb hg_ hnew_;clear hg_ hnew_;(first|rw [← Ny168.out] at ho5|(simp only [Int.reduceToNat] at ho5;rw [← Ny168.out] at ho5));have HO170:=am_ (Kd.R_lower ho5 (bZ_ HB.out));replace HB:=am_ (bT_ HB.out hb);clear hb ho5))
   go_loopg [4] k (fun kq v4 w'=>∃ (x3_1 : List (S31)) (x4_1 : Int),v4 = .int .i64 x4_1 ∧ Aside0 (laws_toSlabS.l0 kq l0 x3_1 x4_1 = some r) ∧ Aside0 (kq≤k) ∧ Aside0 (Kd.R k31 31 w' w.heap.size (fun _=>True) v169 x3_1) ∧ Aside0 (Below w.heap.size w w'))
   case atStart=>exact ⟨(y168),(0),(by first|rfl|(simp;done)|(simp [*];done)),H',⟨Nat.le_refl _⟩,⟨by (with_reducible repeat (first|apply Kd.R_alloc|apply Kd.R_drewN|apply Kd.R_drew));exact HO170.out⟩,⟨by repeat (first|(with_reducible first|exact HB.out|apply bA_|apply bN_|apply bD_)|exact HB.out)⟩⟩
   case round =>
    clear H';(try clear c2 c2b0 c2b1 p2 c3 c3b0 c3b1);obtain ⟨x3_1,x4_1,rfl,HA,HK1,HO_3,HB⟩:=hrel
    cases gk with
    | zero=>exact absurd HA.out (by simp [laws_toSlabS.l0])
    | succ k1 =>
     have H:=HA.out;clear HA;simp only [laws_toSlabS.l0] at H
     by_cases c6 : x4_1 < (l0.length : Int)
     ·
      rw [if_pos c6] at H;have c6b0 : decide (x4_1 < (l0.length : Int)) = true:=decide_eq_true c6;clear c6
      by_cases c7 : 0≤x4_1
      ·
       rw [if_pos c7] at H;have c7b0 : decide (0≤x4_1) = true:=decide_eq_true c7;clear c7;replace H:=Option.bind_eq_some_iff.mp H;obtain ⟨⟨t172,t173,t174,t175⟩,A80,H⟩:=H;replace H : (if x4_1 < (x3_1.length : Int) then (laws_toSlabS.l0 k1 l0 (x3_1.set (x4_1 : Int).toNat (⟨t172,t173,t174,t175⟩ : S31)) (wrap64 (x4_1 + 1))) else (none)) = some r:=H;have A8:=am_ A80;clear A80
       by_cases c9 : x4_1 < (x3_1.length : Int)
       ·
        rw [if_pos c9] at H;have c9b0 : decide (x4_1 < (x3_1.length : Int)) = true:=decide_eq_true c9;clear c9;obtain ⟨y176,hy176⟩ : ∃ y_ : List (S31),y_ = (x3_1.set (x4_1 : Int).toNat (⟨t172,t173,t174,t175⟩ : S31)):=⟨_,rfl⟩
        replace H : (laws_toSlabS.l0 k1 l0 y176 (wrap64 (x4_1 + 1))) = some r:=by first|(rw [hy176];with_reducible exact H)|(have H2_:=(Option.bind_some _ _).symm.trans H;rw [hy176];with_reducible exact H2_)|(have H2_:=(Option.bind_some _ _).symm.trans H;with_reducible exact H2_)|with_reducible exact H|(rw [hy176];exact H)|exact H
        have Ny176:=am_ hy176;clear hy176;have H':=am_ H;clear H;have p171 : 0≤(x4_1 : Int):=od_ (by first|(with_reducible assumption)|assumption);have q171 : x4_1 < (l0.length : Int):=od_ (by first|(with_reducible assumption)|assumption);obtain ⟨ad171,e171,hx171_0,hx171_1,hx171_2,hx171_3⟩:=at_T77 HR0.out x4_1 p171 q171
        cases e171
        replace hx171_0:=(HB.out.cell (bl_ w _ hx171_0)).trans hx171_0;replace hx171_1:=(HB.out.cell (bl_ w _ hx171_1)).trans hx171_1;replace hx171_2:=(HB.out.cell (bl_ w _ hx171_2)).trans hx171_2;replace hx171_3:=(HB.out.cell (bl_ w _ hx171_3)).trans hx171_3;replace p171:=eq_true p171;replace q171:=eq_true q171
        go_wp2_with (first|((with_reducible refine gate_callee (f:=41) rfl ?_);refine goesL_ (some 20) rfl rfl Try.func41 (by kernel_rfl) rfl #[.agg #[.int .i8 ((rd_T77 l0 x4_1).f0),.int .i8 ((rd_T77 l0 x4_1).f1),.int .i8 ((rd_T77 l0 x4_1).f2),.int .i8 ((rd_T77 l0 x4_1).f3)]] rfl (by (try simp only [List.map_toArray,List.map_cons,List.map_nil]);first|done|rfl|(simp only [List.length_drop,List.length_take];rfl)) ?_;(with_reducible refine (laws_toSlab.calls ((rd_T77 l0 x4_1).f0) ((rd_T77 l0 x4_1).f1) ((rd_T77 l0 x4_1).f2) ((rd_T77 l0 x4_1).f3) t172 t173 t174 t175 _ A8.out).mono ?_);rintro e w11 ⟨rfl,hb⟩;refine ⟨_,rfl,?_⟩;replace HO_3:=am_ (Kd.R_below HO_3.out hb);replace HB:=am_ (bT_ HB.out hb);(try clear hb hb2 hk hi);have p10 : 0≤(x4_1 : Int):=od_ (by first|(with_reducible assumption)|assumption);have q10 : (x4_1 : Int) < ((x3_1.length : Int) : Int):=od_ (by first|(with_reducible assumption)|assumption);obtain ⟨go10,co10,eo10,gb10,gl10,cl10,HG10⟩:=Kd.R_form HO_3.out (by omega);(first|cases eo10|(injection eo10 with ea_ en_ ec_;(first|subst ea_|(injection ea_ with ea_;subst ea_));subst ec_;clear en_));have GB10:=am_ gb10;have GG10:=am_ HG10;clear gb10 gl10 HG10;obtain ⟨ce10,hcl10,hM10,hcc10,hfr10⟩:=Kd.R_elem HO_3.out z31 (x4_1 : Int) p10 q10;obtain rfl:=k31_openM hM10;have hx10_0 : w11.cell? ⟨go10,(x4_1 : Int).toNat * 4,none⟩ = some (.int .i8 ((rd_T31 x3_1 x4_1).f0)):=hcc10 0 _ rfl;have hx10_1 : w11.cell? ⟨go10,(x4_1 : Int).toNat * 4 + 1,none⟩ = some (.int .i8 ((rd_T31 x3_1 x4_1).f1)):=hcc10 1 _ rfl;have hx10_2 : w11.cell? ⟨go10,(x4_1 : Int).toNat * 4 + 2,none⟩ = some (.int .i8 ((rd_T31 x3_1 x4_1).f2)):=hcc10 2 _ rfl;have hx10_3 : w11.cell? ⟨go10,(x4_1 : Int).toNat * 4 + 3,none⟩ = some (.int .i8 ((rd_T31 x3_1 x4_1).f3)):=hcc10 3 _ rfl;have hf10_0 : w11.frozen? ⟨go10,(x4_1 : Int).toNat * 4,none⟩ = false:=hfr10 0;have hf10_1 : w11.frozen? ⟨go10,(x4_1 : Int).toNat * 4 + 1,none⟩ = false:=hfr10 1;have hf10_2 : w11.frozen? ⟨go10,(x4_1 : Int).toNat * 4 + 2,none⟩ = false:=hfr10 2;have hf10_3 : w11.frozen? ⟨go10,(x4_1 : Int).toNat * 4 + 3,none⟩ = false:=hfr10 3;clear hcl10 hcc10 hfr10;(try clear hM10);replace p10:=eq_true p10;replace q10:=eq_true q10;have HX12:=am_ (show Kd.R k31 31 w11 w.heap.size (fun _=>True) (.slice (some ⟨go10,0,none⟩) x3_1.length co10) x3_1 from HO_3.out);obtain ⟨ce12,hcl12,hM12,hcc12,hfr12⟩:=Kd.R_elem HX12.out z31 (x4_1 : Int) (od_ (by first|(with_reducible assumption)|assumption)) (by have h_ : (x4_1 : Int) < ((x3_1.length : Int) : Int):=od_ (by first|(with_reducible assumption)|assumption);first|exact h_|(have e_:=(Kd.R_reads' HO_3.out).1;omega)|simpa using h_);obtain rfl:=k31_openM hM12;have HP12:=Kd.R_seg HX12.out (x4_1 : Int) (od_ (by first|(with_reducible assumption)|assumption)) (by have h_ : (x4_1 : Int) < ((x3_1.length : Int) : Int):=od_ (by first|(with_reducible assumption)|assumption);first|exact h_|(have e_:=(Kd.R_reads' HO_3.out).1;omega)|simpa using h_) (seg:=[.int .i8 t172,.int .i8 t173,.int .i8 t174,.int .i8 t175]) (j:=0) hcl12 hcc12 (show 4≤4 from by decide) (x':=(⟨t172,t173,t174,t175⟩ : S31)) (k31_mkM _ _ _ (⟨t172,t173,t174,t175⟩ : S31) ) (fun _ hk=>hk);have hx12_0:=hcc12 0 _ rfl;(try simp only [show (k31).sz = 4 from rfl,Nat.mul_one,Nat.add_zero] at hx12_0);have hf12_0:=hfr12 0;(try simp only [show (k31).sz = 4 from rfl,Nat.mul_one,Nat.add_zero] at hf12_0);have hx12_1:=hcc12 1 _ rfl;(try simp only [show (k31).sz = 4 from rfl,Nat.mul_one,Nat.add_zero] at hx12_1);have hf12_1:=hfr12 1;(try simp only [show (k31).sz = 4 from rfl,Nat.mul_one,Nat.add_zero] at hf12_1);have hx12_2:=hcc12 2 _ rfl;(try simp only [show (k31).sz = 4 from rfl,Nat.mul_one,Nat.add_zero] at hx12_2);have hf12_2:=hfr12 2;(try simp only [show (k31).sz = 4 from rfl,Nat.mul_one,Nat.add_zero] at hf12_2);have hx12_3:=hcc12 3 _ rfl;(try simp only [show (k31).sz = 4 from rfl,Nat.mul_one,Nat.add_zero] at hx12_3);have hf12_3:=hfr12 3;(try simp only [show (k31).sz = 4 from rfl,Nat.mul_one,Nat.add_zero] at hf12_3);clear hcl12 hcc12 hfr12;(try clear hM12))|((with_reducible refine gate_store (t:=31) (p:=21) rfl ?_);refine store_event (t:=31) (p:=21) (v:=?vo_w13) (w1:=((((w11.setCell ⟨go10,(x4_1 : Int).toNat * 4,none⟩ (.int .i8 t172)).setCell ⟨go10,(x4_1 : Int).toNat * 4 + 1,none⟩ (.int .i8 t173)).setCell ⟨go10,(x4_1 : Int).toNat * 4 + 2,none⟩ (.int .i8 t174)).setCell ⟨go10,(x4_1 : Int).toNat * 4 + 3,none⟩ (.int .i8 t175))) ?hg ?ho ?hn ?hr ?_;(case ho=>rfl);(case hg=>rfl);(case hn=>rfl);(case hr=>first|(go_simp;done)|(go_simp;rfl));intro w13 hw;have hg : w11.grownBy w13 (some go10):=(by rw [hw];exact HP12.2);have hp_ : Kd.R k31 31 w13 w.heap.size (fun _=>True) (.slice (some ⟨go10,0,none⟩) x3_1.length co10) y176:=(by rw [hw,Ny176.out];exact HP12.1);clear HP12;have n0_:=am_ (hp_);have n1_:=am_ ((by rw [hw];exact bS_ (bS_ (bS_ (bS_ (HB.out) GB10.out) GB10.out) GB10.out) GB10.out : Below w.heap.size w w13));clear HO_3;clear HB;have HO_3:=n0_;have HB:=n1_;clear n0_ n1_;clear hg hw hp_))
        go_roundg k1
        case measure=>have:=HK1.out;omega
        case rel=>exact ⟨(y176),(wrap64 (x4_1 + 1)),(by first|rfl|(simp;done)|(simp [*];done)),H',⟨by have:=HK1.out;omega⟩,⟨by (with_reducible repeat (first|apply Kd.R_alloc|apply Kd.R_drewN|apply Kd.R_drew));exact HO_3.out⟩,⟨by repeat (first|(with_reducible first|exact HB.out|apply bA_|apply bN_|apply bD_)|exact HB.out)⟩⟩
       · rw [if_neg c9] at H;exact absurd H (by simp)
      · rw [if_neg c7] at H;exact absurd H (by simp)
     ·
      rw [if_neg c6] at H;have c6b0 : decide (x4_1 < (l0.length : Int)) = false:=decide_eq_false c6;clear c6;obtain rfl:=Option.some.inj H
      go_wp2
      go_ret
      exact ⟨_,by first|rfl|(simp [errW_none,errW_some] <;> rfl)|(simp [*,errW_none,errW_some] <;> rfl),by (with_reducible repeat (first|apply Kd.R_alloc|apply Kd.R_drewN|apply Kd.R_drew));exact HO_3.out,by repeat (first|(with_reducible first|exact HB.out|apply bA_|apply bN_|apply bD_)|exact HB.out)⟩
  · rw [if_neg c3] at H;exact absurd H (by simp)
 · rw [if_neg c2] at H;exact absurd H (by simp)
def laws_eqSlab.f (a0_0 : Int) (a0_1 : Int) (a0_2 : Int) (a0_3 : Int) (a1_0 : Int) (a1_1 : Int) (a1_2 : Int) (a1_3 : Int) : Option (Bool) := if a0_0 = a1_0 then (if a0_1 = a1_1 then (if a0_2 = a1_2 then (if a0_3 = a1_3 then (some true) else (some false)) else (some false)) else (some false)) else (some false)
set_option maxHeartbeats 8000000 in
set_option maxRecDepth 100000 in
theorem laws_eqSlab.calls (a0_0 : Int) (a0_1 : Int) (a0_2 : Int) (a0_3 : Int) (a1_0 : Int) (a1_1 : Int) (a1_2 : Int) (a1_3 : Int) (r : Bool) (w : World) (h : laws_eqSlab.f a0_0 a0_1 a0_2 a0_3 a1_0 a1_1 a1_2 a1_3 = some r) :
  Calls Try.prog 10 #[.agg #[.int .i8 a0_0,.int .i8 a0_1,.int .i8 a0_2,.int .i8 a0_3],.agg #[.int .i8 a1_0,.int .i8 a1_1,.int .i8 a1_2,.int .i8 a1_3]] w fun e w'=>e = .returned (.bool r) ∧ Below w.heap.size w w':=by
 have hu31:=Try.underlying31;have HB:=am_ (Below.refl w.heap.size w);have H : (if a0_0 = a1_0 then (if a0_1 = a1_1 then (if a0_2 = a1_2 then (if a0_3 = a1_3 then (some true) else (some false)) else (some false)) else (some false)) else (some false)) = some r:=h;clear h
 by_cases c3 : a0_0 = a1_0
 ·
  rw [if_pos c3] at H;have c3b0 : (a0_0 == a1_0) = true:=beq_iff_eq.mpr c3;have c3b1 : (a0_0 != a1_0) = false:=bne_eq_false_iff_eq.mpr c3;clear c3
  by_cases c4 : a0_1 = a1_1
  ·
   rw [if_pos c4] at H;have c4b0 : (a0_1 == a1_1) = true:=beq_iff_eq.mpr c4;have c4b1 : (a0_1 != a1_1) = false:=bne_eq_false_iff_eq.mpr c4;clear c4
   by_cases c5 : a0_2 = a1_2
   ·
    rw [if_pos c5] at H;have c5b0 : (a0_2 == a1_2) = true:=beq_iff_eq.mpr c5;have c5b1 : (a0_2 != a1_2) = false:=bne_eq_false_iff_eq.mpr c5;clear c5
    by_cases c6 : a0_3 = a1_3
    ·
     rw [if_pos c6] at H;have c6b0 : (a0_3 == a1_3) = true:=beq_iff_eq.mpr c6;have c6b1 : (a0_3 != a1_3) = false:=bne_eq_false_iff_eq.mpr c6;clear c6;obtain rfl:=Option.some.inj H
     go_enter Try.func10,Try.ntmps10
     go_wp2_with (first|((with_reducible refine gate_dst (N:=2) rfl ?_);refine box_event ?hg (N:=2) ?hd (cs:=#[.int .i8 a0_0,.int .i8 a0_1,.int .i8 a0_2,.int .i8 a0_3]) (t:=31) ?hr ?_;(case hd=>rfl);(case hg=>rfl);(case hr=>first|(go_simp;done)|(go_simp;rfl));intro gb284 hg w7 hbox hb;have n0_:=am_ (bT_ HB.out hb);have n1_:=am_ (hbox);have n2_:=am_ ((by rw [hg];exact (bZ_ HB.out) : w.heap.size≤gb284));have n3_:=n2_;clear HB;have HB:=n0_;have BK284:=n1_;have GW284:=n2_;have GE284:=n3_;clear n0_ n1_ n2_ n3_;clear hb hbox hg)|((with_reducible refine gate_dst (N:=3) rfl ?_);refine box_event ?hg (N:=3) ?hd (cs:=#[.int .i8 a1_0,.int .i8 a1_1,.int .i8 a1_2,.int .i8 a1_3]) (t:=31) ?hr ?_;(case hd=>rfl);(case hg=>rfl);(case hr=>first|(go_simp;done)|(go_simp;rfl));intro gb285 hg w8 hbox hb;have n0_:=am_ (kB_ BK284.out hb);have n1_:=am_ (bT_ HB.out hb);have n2_:=am_ (hbox);have n3_:=am_ ((by rw [hg];exact (bZ_ HB.out) : w.heap.size≤gb285));have n4_:=n3_;have n5_:=am_ ((by rw [hg];exact nL_ (kL_ BK284.out) : gb284 ≠ gb285));have n6_:=am_ ((by rw [hg];exact nG_ (kL_ BK284.out) : gb285 ≠ gb284));clear BK284;clear HB;have BK284:=n0_;have HB:=n1_;have BK285:=n2_;have GW285:=n3_;have GE285:=n4_;have NB284_285:=n5_;have NB285_284:=n6_;clear n0_ n1_ n2_ n3_ n4_ n5_ n6_;clear hb hbox hg;have hnb9:=NB284_285.out;have hnc9:=NB285_284.out;have hcz10_0 : w8.cell? ⟨gb284,0,none⟩ = some (.int .i8 a0_0):=(kC_ BK284.out 0).trans rfl;have hcz10_1 : w8.cell? ⟨gb284,1,none⟩ = some (.int .i8 a0_1):=(kC_ BK284.out 1).trans rfl;have hcz10_2 : w8.cell? ⟨gb284,2,none⟩ = some (.int .i8 a0_2):=(kC_ BK284.out 2).trans rfl;have hcz10_3 : w8.cell? ⟨gb284,3,none⟩ = some (.int .i8 a0_3):=(kC_ BK284.out 3).trans rfl;have hfz10_0:=kF_ BK284.out 0;have hfz10_1:=kF_ BK284.out 1;have hfz10_2:=kF_ BK284.out 2;have hfz10_3:=kF_ BK284.out 3;have hcz11_0 : w8.cell? ⟨gb285,0,none⟩ = some (.int .i8 a1_0):=(kC_ BK285.out 0).trans rfl;have hcz11_1 : w8.cell? ⟨gb285,1,none⟩ = some (.int .i8 a1_1):=(kC_ BK285.out 1).trans rfl;have hcz11_2 : w8.cell? ⟨gb285,2,none⟩ = some (.int .i8 a1_2):=(kC_ BK285.out 2).trans rfl;have hcz11_3 : w8.cell? ⟨gb285,3,none⟩ = some (.int .i8 a1_3):=(kC_ BK285.out 3).trans rfl;have hfz11_0:=kF_ BK285.out 0;have hfz11_1:=kF_ BK285.out 1;have hfz11_2:=kF_ BK285.out 2;have hfz11_3:=kF_ BK285.out 3))
     go_ret
     exact ⟨by first|rfl|(simp [errW_none,errW_some] <;> rfl)|(simp [*,errW_none,errW_some] <;> rfl),by repeat (first|(with_reducible first|exact HB.out|apply bA_|apply bN_|apply bD_|refine bS_ ?_ GE284.out|refine bS_ ?_ GE285.out)|exact HB.out)⟩
    ·
     rw [if_neg c6] at H;have c6b0 : (a0_3 == a1_3) = false:=beq_eq_false_iff_ne.mpr c6;have c6b1 : (a0_3 != a1_3) = true:=bne_iff_ne.mpr c6;obtain rfl:=Option.some.inj H
     go_enter Try.func10,Try.ntmps10
     go_wp2_with (first|((with_reducible refine gate_dst (N:=2) rfl ?_);refine box_event ?hg (N:=2) ?hd (cs:=#[.int .i8 a0_0,.int .i8 a0_1,.int .i8 a0_2,.int .i8 a0_3]) (t:=31) ?hr ?_;(case hd=>rfl);(case hg=>rfl);(case hr=>first|(go_simp;done)|(go_simp;rfl));intro gb284 hg w12 hbox hb;have n0_:=am_ (bT_ HB.out hb);have n1_:=am_ (hbox);have n2_:=am_ ((by rw [hg];exact (bZ_ HB.out) : w.heap.size≤gb284));have n3_:=n2_;clear HB;have HB:=n0_;have BK284:=n1_;have GW284:=n2_;have GE284:=n3_;clear n0_ n1_ n2_ n3_;clear hb hbox hg)|((with_reducible refine gate_dst (N:=3) rfl ?_);refine box_event ?hg (N:=3) ?hd (cs:=#[.int .i8 a1_0,.int .i8 a1_1,.int .i8 a1_2,.int .i8 a1_3]) (t:=31) ?hr ?_;(case hd=>rfl);(case hg=>rfl);(case hr=>first|(go_simp;done)|(go_simp;rfl));intro gb285 hg w13 hbox hb;have n0_:=am_ (kB_ BK284.out hb);have n1_:=am_ (bT_ HB.out hb);have n2_:=am_ (hbox);have n3_:=am_ ((by rw [hg];exact (bZ_ HB.out) : w.heap.size≤gb285));have n4_:=n3_;have n5_:=am_ ((by rw [hg];exact nL_ (kL_ BK284.out) : gb284 ≠ gb285));have n6_:=am_ ((by rw [hg];exact nG_ (kL_ BK284.out) : gb285 ≠ gb284));clear BK284;clear HB;have BK284:=n0_;have HB:=n1_;have BK285:=n2_;have GW285:=n3_;have GE285:=n4_;have NB284_285:=n5_;have NB285_284:=n6_;clear n0_ n1_ n2_ n3_ n4_ n5_ n6_;clear hb hbox hg;have hnb14:=NB284_285.out;have hnc14:=NB285_284.out;have hcz15_0 : w13.cell? ⟨gb284,0,none⟩ = some (.int .i8 a0_0):=(kC_ BK284.out 0).trans rfl;have hcz15_1 : w13.cell? ⟨gb284,1,none⟩ = some (.int .i8 a0_1):=(kC_ BK284.out 1).trans rfl;have hcz15_2 : w13.cell? ⟨gb284,2,none⟩ = some (.int .i8 a0_2):=(kC_ BK284.out 2).trans rfl;have hcz15_3 : w13.cell? ⟨gb284,3,none⟩ = some (.int .i8 a0_3):=(kC_ BK284.out 3).trans rfl;have hfz15_0:=kF_ BK284.out 0;have hfz15_1:=kF_ BK284.out 1;have hfz15_2:=kF_ BK284.out 2;have hfz15_3:=kF_ BK284.out 3;have hcz16_0 : w13.cell? ⟨gb285,0,none⟩ = some (.int .i8 a1_0):=(kC_ BK285.out 0).trans rfl;have hcz16_1 : w13.cell? ⟨gb285,1,none⟩ = some (.int .i8 a1_1):=(kC_ BK285.out 1).trans rfl;have hcz16_2 : w13.cell? ⟨gb285,2,none⟩ = some (.int .i8 a1_2):=(kC_ BK285.out 2).trans rfl;have hcz16_3 : w13.cell? ⟨gb285,3,none⟩ = some (.int .i8 a1_3):=(kC_ BK285.out 3).trans rfl;have hfz16_0:=kF_ BK285.out 0;have hfz16_1:=kF_ BK285.out 1;have hfz16_2:=kF_ BK285.out 2;have hfz16_3:=kF_ BK285.out 3))
     go_ret
     exact ⟨by first|rfl|(simp [errW_none,errW_some] <;> rfl)|(simp [*,errW_none,errW_some] <;> rfl),by repeat (first|(with_reducible first|exact HB.out|apply bA_|apply bN_|apply bD_|refine bS_ ?_ GE284.out|refine bS_ ?_ GE285.out)|exact HB.out)⟩
   ·
    rw [if_neg c5] at H;have c5b0 : (a0_2 == a1_2) = false:=beq_eq_false_iff_ne.mpr c5;have c5b1 : (a0_2 != a1_2) = true:=bne_iff_ne.mpr c5;obtain rfl:=Option.some.inj H
    go_enter Try.func10,Try.ntmps10
    go_wp2_with (first|((with_reducible refine gate_dst (N:=2) rfl ?_);refine box_event ?hg (N:=2) ?hd (cs:=#[.int .i8 a0_0,.int .i8 a0_1,.int .i8 a0_2,.int .i8 a0_3]) (t:=31) ?hr ?_;(case hd=>rfl);(case hg=>rfl);(case hr=>first|(go_simp;done)|(go_simp;rfl));intro gb284 hg w17 hbox hb;have n0_:=am_ (bT_ HB.out hb);have n1_:=am_ (hbox);have n2_:=am_ ((by rw [hg];exact (bZ_ HB.out) : w.heap.size≤gb284));have n3_:=n2_;clear HB;have HB:=n0_;have BK284:=n1_;have GW284:=n2_;have GE284:=n3_;clear n0_ n1_ n2_ n3_;clear hb hbox hg)|((with_reducible refine gate_dst (N:=3) rfl ?_);refine box_event ?hg (N:=3) ?hd (cs:=#[.int .i8 a1_0,.int .i8 a1_1,.int .i8 a1_2,.int .i8 a1_3]) (t:=31) ?hr ?_;(case hd=>rfl);(case hg=>rfl);(case hr=>first|(go_simp;done)|(go_simp;rfl));intro gb285 hg w18 hbox hb;have n0_:=am_ (kB_ BK284.out hb);have n1_:=am_ (bT_ HB.out hb);have n2_:=am_ (hbox);have n3_:=am_ ((by rw [hg];exact (bZ_ HB.out) : w.heap.size≤gb285));have n4_:=n3_;have n5_:=am_ ((by rw [hg];exact nL_ (kL_ BK284.out) : gb284 ≠ gb285));have n6_:=am_ ((by rw [hg];exact nG_ (kL_ BK284.out) : gb285 ≠ gb284));clear BK284;clear HB;have BK284:=n0_;have HB:=n1_;have BK285:=n2_;have GW285:=n3_;have GE285:=n4_;have NB284_285:=n5_;have NB285_284:=n6_;clear n0_ n1_ n2_ n3_ n4_ n5_ n6_;clear hb hbox hg;have hnb19:=NB284_285.out;have hnc19:=NB285_284.out;have hcz20_0 : w18.cell? ⟨gb284,0,none⟩ = some (.int .i8 a0_0):=(kC_ BK284.out 0).trans rfl;have hcz20_1 : w18.cell? ⟨gb284,1,none⟩ = some (.int .i8 a0_1):=(kC_ BK284.out 1).trans rfl;have hcz20_2 : w18.cell? ⟨gb284,2,none⟩ = some (.int .i8 a0_2):=(kC_ BK284.out 2).trans rfl;have hcz20_3 : w18.cell? ⟨gb284,3,none⟩ = some (.int .i8 a0_3):=(kC_ BK284.out 3).trans rfl;have hfz20_0:=kF_ BK284.out 0;have hfz20_1:=kF_ BK284.out 1;have hfz20_2:=kF_ BK284.out 2;have hfz20_3:=kF_ BK284.out 3;have hcz21_0 : w18.cell? ⟨gb285,0,none⟩ = some (.int .i8 a1_0):=(kC_ BK285.out 0).trans rfl;have hcz21_1 : w18.cell? ⟨gb285,1,none⟩ = some (.int .i8 a1_1):=(kC_ BK285.out 1).trans rfl;have hcz21_2 : w18.cell? ⟨gb285,2,none⟩ = some (.int .i8 a1_2):=(kC_ BK285.out 2).trans rfl;have hcz21_3 : w18.cell? ⟨gb285,3,none⟩ = some (.int .i8 a1_3):=(kC_ BK285.out 3).trans rfl;have hfz21_0:=kF_ BK285.out 0;have hfz21_1:=kF_ BK285.out 1;have hfz21_2:=kF_ BK285.out 2;have hfz21_3:=kF_ BK285.out 3))
    go_ret
    exact ⟨by first|rfl|(simp [errW_none,errW_some] <;> rfl)|(simp [*,errW_none,errW_some] <;> rfl),by repeat (first|(with_reducible first|exact HB.out|apply bA_|apply bN_|apply bD_|refine bS_ ?_ GE284.out|refine bS_ ?_ GE285.out)|exact HB.out)⟩
  ·
   rw [if_neg c4] at H;have c4b0 : (a0_1 == a1_1) = false:=beq_eq_false_iff_ne.mpr c4;have c4b1 : (a0_1 != a1_1) = true:=bne_iff_ne.mpr c4;obtain rfl:=Option.some.inj H
   go_enter Try.func10,Try.ntmps10
   go_wp2_with (first|((with_reducible refine gate_dst (N:=2) rfl ?_);refine box_event ?hg (N:=2) ?hd (cs:=#[.int .i8 a0_0,.int .i8 a0_1,.int .i8 a0_2,.int .i8 a0_3]) (t:=31) ?hr ?_;(case hd=>rfl);(case hg=>rfl);(case hr=>first|(go_simp;done)|(go_simp;rfl));intro gb284 hg w22 hbox hb;have n0_:=am_ (bT_ HB.out hb);have n1_:=am_ (hbox);have n2_:=am_ ((by rw [hg];exact (bZ_ HB.out) : w.heap.size≤gb284));have n3_:=n2_;clear HB;have HB:=n0_;have BK284:=n1_;have GW284:=n2_;have GE284:=n3_;clear n0_ n1_ n2_ n3_;clear hb hbox hg)|((with_reducible refine gate_dst (N:=3) rfl ?_);refine box_event ?hg (N:=3) ?hd (cs:=#[.int .i8 a1_0,.int .i8 a1_1,.int .i8 a1_2,.int .i8 a1_3]) (t:=31) ?hr ?_;(case hd=>rfl);(case hg=>rfl);(case hr=>first|(go_simp;done)|(go_simp;rfl));intro gb285 hg w23 hbox hb;have n0_:=am_ (kB_ BK284.out hb);have n1_:=am_ (bT_ HB.out hb);have n2_:=am_ (hbox);have n3_:=am_ ((by rw [hg];exact (bZ_ HB.out) : w.heap.size≤gb285));have n4_:=n3_;have n5_:=am_ ((by rw [hg];exact nL_ (kL_ BK284.out) : gb284 ≠ gb285));have n6_:=am_ ((by rw [hg];exact nG_ (kL_ BK284.out) : gb285 ≠ gb284));clear BK284;clear HB;have BK284:=n0_;have HB:=n1_;have BK285:=n2_;have GW285:=n3_;have GE285:=n4_;have NB284_285:=n5_;have NB285_284:=n6_;clear n0_ n1_ n2_ n3_ n4_ n5_ n6_;clear hb hbox hg;have hnb24:=NB284_285.out;have hnc24:=NB285_284.out;have hcz25_0 : w23.cell? ⟨gb284,0,none⟩ = some (.int .i8 a0_0):=(kC_ BK284.out 0).trans rfl;have hcz25_1 : w23.cell? ⟨gb284,1,none⟩ = some (.int .i8 a0_1):=(kC_ BK284.out 1).trans rfl;have hcz25_2 : w23.cell? ⟨gb284,2,none⟩ = some (.int .i8 a0_2):=(kC_ BK284.out 2).trans rfl;have hcz25_3 : w23.cell? ⟨gb284,3,none⟩ = some (.int .i8 a0_3):=(kC_ BK284.out 3).trans rfl;have hfz25_0:=kF_ BK284.out 0;have hfz25_1:=kF_ BK284.out 1;have hfz25_2:=kF_ BK284.out 2;have hfz25_3:=kF_ BK284.out 3;have hcz26_0 : w23.cell? ⟨gb285,0,none⟩ = some (.int .i8 a1_0):=(kC_ BK285.out 0).trans rfl;have hcz26_1 : w23.cell? ⟨gb285,1,none⟩ = some (.int .i8 a1_1):=(kC_ BK285.out 1).trans rfl;have hcz26_2 : w23.cell? ⟨gb285,2,none⟩ = some (.int .i8 a1_2):=(kC_ BK285.out 2).trans rfl;have hcz26_3 : w23.cell? ⟨gb285,3,none⟩ = some (.int .i8 a1_3):=(kC_ BK285.out 3).trans rfl;have hfz26_0:=kF_ BK285.out 0;have hfz26_1:=kF_ BK285.out 1;have hfz26_2:=kF_ BK285.out 2;have hfz26_3:=kF_ BK285.out 3))
   go_ret
   exact ⟨by first|rfl|(simp [errW_none,errW_some] <;> rfl)|(simp [*,errW_none,errW_some] <;> rfl),by repeat (first|(with_reducible first|exact HB.out|apply bA_|apply bN_|apply bD_|refine bS_ ?_ GE284.out|refine bS_ ?_ GE285.out)|exact HB.out)⟩
 ·
  rw [if_neg c3] at H;have c3b0 : (a0_0 == a1_0) = false:=beq_eq_false_iff_ne.mpr c3;have c3b1 : (a0_0 != a1_0) = true:=bne_iff_ne.mpr c3;obtain rfl:=Option.some.inj H
  go_enter Try.func10,Try.ntmps10
  go_wp2_with (first|((with_reducible refine gate_dst (N:=2) rfl ?_);refine box_event ?hg (N:=2) ?hd (cs:=#[.int .i8 a0_0,.int .i8 a0_1,.int .i8 a0_2,.int .i8 a0_3]) (t:=31) ?hr ?_;(case hd=>rfl);(case hg=>rfl);(case hr=>first|(go_simp;done)|(go_simp;rfl));intro gb284 hg w27 hbox hb;have n0_:=am_ (bT_ HB.out hb);have n1_:=am_ (hbox);have n2_:=am_ ((by rw [hg];exact (bZ_ HB.out) : w.heap.size≤gb284));have n3_:=n2_;clear HB;have HB:=n0_;have BK284:=n1_;have GW284:=n2_;have GE284:=n3_;clear n0_ n1_ n2_ n3_;clear hb hbox hg)|((with_reducible refine gate_dst (N:=3) rfl ?_);refine box_event ?hg (N:=3) ?hd (cs:=#[.int .i8 a1_0,.int .i8 a1_1,.int .i8 a1_2,.int .i8 a1_3]) (t:=31) ?hr ?_;(case hd=>rfl);(case hg=>rfl);(case hr=>first|(go_simp;done)|(go_simp;rfl));intro gb285 hg w28 hbox hb;have n0_:=am_ (kB_ BK284.out hb);have n1_:=am_ (bT_ HB.out hb);have n2_:=am_ (hbox);have n3_:=am_ ((by rw [hg];exact (bZ_ HB.out) : w.heap.size≤gb285));have n4_:=n3_;have n5_:=am_ ((by rw [hg];exact nL_ (kL_ BK284.out) : gb284 ≠ gb285));have n6_:=am_ ((by rw [hg];exact nG_ (kL_ BK284.out) : gb285 ≠ gb284));clear BK284;clear HB;have BK284:=n0_;have HB:=n1_;have BK285:=n2_;have GW285:=n3_;have GE285:=n4_;have NB284_285:=n5_;have NB285_284:=n6_;clear n0_ n1_ n2_ n3_ n4_ n5_ n6_;clear hb hbox hg;have hnb29:=NB284_285.out;have hnc29:=NB285_284.out;have hcz30_0 : w28.cell? ⟨gb284,0,none⟩ = some (.int .i8 a0_0):=(kC_ BK284.out 0).trans rfl;have hcz30_1 : w28.cell? ⟨gb284,1,none⟩ = some (.int .i8 a0_1):=(kC_ BK284.out 1).trans rfl;have hcz30_2 : w28.cell? ⟨gb284,2,none⟩ = some (.int .i8 a0_2):=(kC_ BK284.out 2).trans rfl;have hcz30_3 : w28.cell? ⟨gb284,3,none⟩ = some (.int .i8 a0_3):=(kC_ BK284.out 3).trans rfl;have hfz30_0:=kF_ BK284.out 0;have hfz30_1:=kF_ BK284.out 1;have hfz30_2:=kF_ BK284.out 2;have hfz30_3:=kF_ BK284.out 3;have hcz31_0 : w28.cell? ⟨gb285,0,none⟩ = some (.int .i8 a1_0):=(kC_ BK285.out 0).trans rfl;have hcz31_1 : w28.cell? ⟨gb285,1,none⟩ = some (.int .i8 a1_1):=(kC_ BK285.out 1).trans rfl;have hcz31_2 : w28.cell? ⟨gb285,2,none⟩ = some (.int .i8 a1_2):=(kC_ BK285.out 2).trans rfl;have hcz31_3 : w28.cell? ⟨gb285,3,none⟩ = some (.int .i8 a1_3):=(kC_ BK285.out 3).trans rfl;have hfz31_0:=kF_ BK285.out 0;have hfz31_1:=kF_ BK285.out 1;have hfz31_2:=kF_ BK285.out 2;have hfz31_3:=kF_ BK285.out 3))
  go_ret
  exact ⟨by first|rfl|(simp [errW_none,errW_some] <;> rfl)|(simp [*,errW_none,errW_some] <;> rfl),by repeat (first|(with_reducible first|exact HB.out|apply bA_|apply bN_|apply bD_|refine bS_ ?_ GE284.out|refine bS_ ?_ GE285.out)|exact HB.out)⟩
def laws_eqSlabS.l0 : Nat → List (S31) → List (S31) → Int → Option (Bool)
 | 0,_,_,_=>none
 | k + 1,x0,x1,x5=>if x5 < (x0.length : Int) then (if 0≤x5 then (if x5 < (x1.length : Int) then ((laws_eqSlab.f ((rd_T31 x0 x5).f0) ((rd_T31 x0 x5).f1) ((rd_T31 x0 x5).f2) ((rd_T31 x0 x5).f3) ((rd_T31 x1 x5).f0) ((rd_T31 x1 x5).f1) ((rd_T31 x1 x5).f2) ((rd_T31 x1 x5).f3)).bind fun t288=>(if t288 = true then (laws_eqSlabS.l0 k x0 x1 (wrap64 (x5 + 1))) else (some false))) else (none)) else (none)) else (some true)
def laws_eqSlabS.f (k : Nat) (l0 : List (S31)) (l1 : List (S31)) : Option (Bool) := if (l0.length : Int) = (l1.length : Int) then (laws_eqSlabS.l0 k l0 l1 0) else (some false)
theorem laws_eqSlabS.mono_l : ∀ k, (∀ y0 y1 y2, LeO (laws_eqSlabS.l0 k y0 y1 y2) (laws_eqSlabS.l0 (k + 1) y0 y1 y2))
 | 0=>fun _ _ _ r h=>by simp [laws_eqSlabS.l0] at h
 | k + 1=>by
  have ih0:=laws_eqSlabS.mono_l k
  ·
   intro y0 y1 y2
   unfold laws_eqSlabS.l0
   repeat' first
   | (with_reducible exact ih0 _ _ _)
   | (with_reducible exact LeO.refl _)
   | (with_reducible exact LeO.none _)
   | (with_reducible refine LeO.ite ?_ ?_)
   | (with_reducible refine LeO.bind ?_ (fun _=>?_))
   | exact ih0 _ _ _
   | exact LeO.none _
   | refine LeO.ite ?_ ?_
   | refine LeO.bind ?_ (fun _=>?_)
theorem laws_eqSlabS.mono : ∀ a0 a1 k, LeO (laws_eqSlabS.f k a0 a1) (laws_eqSlabS.f (k + 1) a0 a1) := by
 intro a0 a1 k;have ih0:=laws_eqSlabS.mono_l k
 unfold laws_eqSlabS.f
 repeat' first
   | (with_reducible exact ih0 _ _ _)
   | (with_reducible exact LeO.refl _)
   | (with_reducible exact LeO.none _)
   | (with_reducible refine LeO.ite ?_ ?_)
   | (with_reducible refine LeO.bind ?_ (fun _=>?_))
   | exact ih0 _ _ _
   | exact LeO.none _
   | refine LeO.ite ?_ ?_
   | refine LeO.bind ?_ (fun _=>?_)
def laws_eqSlabS.T6 : Bool × List (List Nat × List Nat) := (true, [([], []), ([], []), ([0, 1], [0, 1]), ([2], [2]), ([], []), ([], []), ([4, 5], [4, 5]), ([6], [6]), ([3, 7], [3, 7]), ([8], [8])])
def laws_eqSlabS.B6 : List Nat := [0, 0, 3, 7, 0, 0, 48, 112, 255, 511]
theorem laws_eqSlabS.tab6 : rtab .any (opsOf Try.f27 6) = laws_eqSlabS.T6 := by kernel_rfl
theorem laws_eqSlabS.bits6 : waitsOk laws_eqSlabS.T6.2 laws_eqSlabS.B6 = true := by kernel_rfl
set_option maxHeartbeats 8000000 in
set_option maxRecDepth 100000 in
theorem laws_eqSlabS.calls (k : Nat) (A0 : Option Addr) (c0 : Nat) (l0 : List (S31)) (A1 : Option Addr) (c1 : Nat) (l1 : List (S31)) (r : Bool) (w : World) (hr0 : Kd.C k31 w A0 l0.length l0) (hc0 : l0.length ≤ c0) (hr1 : Kd.C k31 w A1 l1.length l1) (hc1 : l1.length ≤ c1) (h : laws_eqSlabS.f k l0 l1 = some r) :
  Calls Try.prog 27 #[.slice A0 l0.length c0,.slice A1 l1.length c1] w fun e w'=>e = .returned (.bool r) ∧ Below w.heap.size w w':=by
 have hu31:=Try.underlying31;have HR0:=am_ hr0;have HC0:=am_ hc0;clear hr0 hc0;have HR1:=am_ hr1;have HC1:=am_ hc1;clear hr1 hc1;have HB:=am_ (Below.refl w.heap.size w);have H : (if (l0.length : Int) = (l1.length : Int) then (laws_eqSlabS.l0 k l0 l1 0) else (some false)) = some r:=h;clear h
 by_cases c3 : (l0.length : Int) = (l1.length : Int)
 ·
  rw [if_pos c3] at H;have c3b0 : ((l0.length : Int) == (l1.length : Int)) = true:=beq_iff_eq.mpr c3;have c3b1 : ((l0.length : Int) != (l1.length : Int)) = false:=bne_eq_false_iff_eq.mpr c3;have c3b2 : (l0.length == l1.length) = true:=by first|simpa using c3|(simp at c3 ⊢;omega)
  clear c3;have H':=am_ H;clear H
  go_enter Try.func27,Try.ntmps27
  go_wp2
  go_loopg [5] k (fun kq v5 w'=>∃ (x5_1 : Int),v5 = .int .i64 x5_1 ∧ Aside0 (laws_eqSlabS.l0 kq l0 l1 x5_1 = some r) ∧ Aside0 (kq≤k) ∧ Aside0 (Below w.heap.size w w'))
  case atStart=>exact ⟨(0),(by first|rfl|(simp;done)|(simp [*];done)),H',⟨Nat.le_refl _⟩,⟨by repeat (first|(with_reducible first|exact HB.out|apply bA_|apply bN_|apply bD_)|exact HB.out)⟩⟩
  case round =>
   clear H';(try clear c1 c2 p2 c3 c3b0 c3b1 c3b2);obtain ⟨x5_1,rfl,HA,HK1,HB⟩:=hrel
   cases gk with
   | zero=>exact absurd HA.out (by simp [laws_eqSlabS.l0])
   | succ k1 =>
    have H:=HA.out;clear HA;simp only [laws_eqSlabS.l0] at H
    by_cases c4 : x5_1 < (l0.length : Int)
    ·
     rw [if_pos c4] at H;have c4b0 : decide (x5_1 < (l0.length : Int)) = true:=decide_eq_true c4;clear c4
     by_cases c5 : 0≤x5_1
     ·
      rw [if_pos c5] at H;have c5b0 : decide (0≤x5_1) = true:=decide_eq_true c5;clear c5
      by_cases c6 : x5_1 < (l1.length : Int)
      ·
       rw [if_pos c6] at H;have c6b0 : decide (x5_1 < (l1.length : Int)) = true:=decide_eq_true c6;clear c6;replace H:=Option.bind_eq_some_iff.mp H;obtain ⟨t288,A70,H⟩:=H;replace H : (if t288 = true then (laws_eqSlabS.l0 k1 l0 l1 (wrap64 (x5_1 + 1))) else (some false)) = some r:=H;have A7:=am_ A70;clear A70
       by_cases c8 : t288 = true
       ·
        subst c8;have H1 : (laws_eqSlabS.l0 k1 l0 l1 (wrap64 (x5_1 + 1))) = some r:=by rw [if_pos rfl] at H;exact H
        clear H;have H:=H1;clear H1;have H':=am_ H;clear H
        try go_wp2
        replace HB:=am_ (bD_ HB.out);have p286 : 0≤(x5_1 : Int):=od_ (by first|(with_reducible assumption)|assumption);have q286 : x5_1 < (l0.length : Int):=od_ (by first|(with_reducible assumption)|assumption);obtain ⟨ad286,e286,hx286_0,hx286_1,hx286_2,hx286_3⟩:=at_T31 HR0.out x5_1 p286 q286;have hw286_3:=hx286_3;have hw286_2:=hx286_2;have hw286_1:=hx286_1;have hw286_0:=hx286_0
        cases e286
        replace hx286_0:=(HB.out.cell (bl_ w _ hx286_0)).trans hx286_0;replace hx286_1:=(HB.out.cell (bl_ w _ hx286_1)).trans hx286_1;replace hx286_2:=(HB.out.cell (bl_ w _ hx286_2)).trans hx286_2;replace hx286_3:=(HB.out.cell (bl_ w _ hx286_3)).trans hx286_3;replace p286:=eq_true p286;replace q286:=eq_true q286;have p287 : 0≤(x5_1 : Int):=od_ (by first|(with_reducible assumption)|assumption);have q287 : x5_1 < (l1.length : Int):=od_ (by first|(with_reducible assumption)|assumption);obtain ⟨ad287,e287,hx287_0,hx287_1,hx287_2,hx287_3⟩:=at_T31 HR1.out x5_1 p287 q287;have hw287_3:=hx287_3;have hw287_2:=hx287_2;have hw287_1:=hx287_1;have hw287_0:=hx287_0
        cases e287
        replace hx287_0:=(HB.out.cell (bl_ w _ hx287_0)).trans hx287_0;replace hx287_1:=(HB.out.cell (bl_ w _ hx287_1)).trans hx287_1;replace hx287_2:=(HB.out.cell (bl_ w _ hx287_2)).trans hx287_2;replace hx287_3:=(HB.out.cell (bl_ w _ hx287_3)).trans hx287_3;replace p287:=eq_true p287;replace q287:=eq_true q287;refine start_ (n:=10) (S:=fun w'=>w'.cell? (ad286.add ((x5_1).toNat * 4)) = some (.int .i8 ((rd_T31 l0 x5_1).f0)) ∧ w'.cell? ⟨(ad286.add ((x5_1).toNat * 4)).block,(ad286.add ((x5_1).toNat * 4)).off + 1,none⟩ = some (.int .i8 ((rd_T31 l0 x5_1).f1)) ∧ w'.cell? ⟨(ad286.add ((x5_1).toNat * 4)).block,(ad286.add ((x5_1).toNat * 4)).off + 2,none⟩ = some (.int .i8 ((rd_T31 l0 x5_1).f2)) ∧ w'.cell? ⟨(ad286.add ((x5_1).toNat * 4)).block,(ad286.add ((x5_1).toNat * 4)).off + 3,none⟩ = some (.int .i8 ((rd_T31 l0 x5_1).f3)) ∧ w'.cell? (ad287.add ((x5_1).toNat * 4)) = some (.int .i8 ((rd_T31 l1 x5_1).f0)) ∧ w'.cell? ⟨(ad287.add ((x5_1).toNat * 4)).block,(ad287.add ((x5_1).toNat * 4)).off + 1,none⟩ = some (.int .i8 ((rd_T31 l1 x5_1).f1)) ∧ w'.cell? ⟨(ad287.add ((x5_1).toNat * 4)).block,(ad287.add ((x5_1).toNat * 4)).off + 2,none⟩ = some (.int .i8 ((rd_T31 l1 x5_1).f2)) ∧ w'.cell? ⟨(ad287.add ((x5_1).toNat * 4)).block,(ad287.add ((x5_1).toNat * 4)).off + 3,none⟩ = some (.int .i8 ((rd_T31 l1 x5_1).f3))) (ds:=[]) (mB_ 10 0) (by kernel_rfl) rfl rfl ⟨((HB.out.cell (bl_ w _ hw286_0)).trans hw286_0),((HB.out.cell (bl_ w _ hw286_1)).trans hw286_1),((HB.out.cell (bl_ w _ hw286_2)).trans hw286_2),((HB.out.cell (bl_ w _ hw286_3)).trans hw286_3),((HB.out.cell (bl_ w _ hw287_0)).trans hw287_0),((HB.out.cell (bl_ w _ hw287_1)).trans hw287_1),((HB.out.cell (bl_ w _ hw287_2)).trans hw287_2),((HB.out.cell (bl_ w _ hw287_3)).trans hw287_3)⟩ (fun hHeld=>?_);refine with_tabW laws_eqSlabS.tab6 laws_eqSlabS.bits6 (fun HT_ HW_=>?_);generalize wr.drew = w9 at HB hx286_0 hx286_1 hx286_2 hx286_3 hx287_0 hx287_1 hx287_2 hx287_3 hHeld ⊢;refine pure_ (i:=0) (N:=some 17) (v:=?_) (a':=?_) (mB_ 10 1) rfl rfl (any_of HT_.out (by kernel_rfl)) (fun _ _ _ h=>h) (Or.inl ⟨by rfl,?_⟩) ?_ ?_;rotate_left;(· intro w';go_simp;with_reducible rfl);rotate_left;(· simp only [Act.put,z1_,z2_,z3_,i64_w,i32_w];rfl)
        refine pure_ (i:=1) (N:=some 18) (v:=?_) (a':=?_) (mB_ 10 3) rfl rfl (any_of HT_.out (by kernel_rfl)) (fun _ _ _ h=>h) (Or.inl ⟨by rfl,?_⟩) ?_ ?_;rotate_left;(· intro w';go_simp;with_reducible rfl);rotate_left;(· simp only [Act.put,z1_,z2_,z3_,i64_w,i32_w];rfl)
        refine pure_ (i:=2) (N:=some 19) (v:=?_) (a':=?_) (mB_ 10 7) rfl rfl (any_of HT_.out (by kernel_rfl)) (fun _ _ _ h=>h) (Or.inl ⟨by rfl,?_⟩) ?_ ?_;rotate_left;(· intro w';go_simp;with_reducible rfl);rotate_left;(· simp only [Act.put,z1_,z2_,z3_,i64_w,i32_w];rfl)
        refine pure_ (i:=4) (N:=some 21) (v:=?_) (a':=?_) (mB_ 10 23) rfl rfl (any_of HT_.out (by kernel_rfl)) (fun _ _ _ h=>h) (Or.inl ⟨by rfl,?_⟩) ?_ ?_;rotate_left;(· intro w';go_simp;with_reducible rfl);rotate_left;(· simp only [Act.put,z1_,z2_,z3_,i64_w,i32_w];rfl)
        refine pure_ (i:=5) (N:=some 22) (v:=?_) (a':=?_) (mB_ 10 55) rfl rfl (any_of HT_.out (by kernel_rfl)) (fun _ _ _ h=>h) (Or.inl ⟨by rfl,?_⟩) ?_ ?_;rotate_left;(· intro w';go_simp;with_reducible rfl);rotate_left;(· simp only [Act.put,z1_,z2_,z3_,i64_w,i32_w];rfl)
        refine pure_ (i:=6) (N:=some 23) (v:=?_) (a':=?_) (mB_ 10 119) rfl rfl (any_of HT_.out (by kernel_rfl)) (fun _ _ _ h=>h) (Or.inl ⟨by rfl,?_⟩) ?_ ?_;rotate_left;(· intro w';go_simp;with_reducible rfl);rotate_left;(· simp only [Act.put,z1_,z2_,z3_,i64_w,i32_w];rfl)
        refine take_ (i:=3) (N:=some 20) (v:=?_) (a':=?_) (mB_ 10 127) rfl rfl (take_ofW HT_.out HW_.out (by kernel_rfl)) (fun _ _ _ h=>h) (Or.inl ⟨by rfl,?_⟩) hHeld ?_ ?_;rotate_left;(· rintro w' ⟨s0,s1,s2,s3,s4,s5,s6,s7⟩;go_simp;with_reducible rfl);rotate_left;(· simp only [Act.put,z1_,z2_,z3_,i64_w,i32_w];rfl)
        refine take_ (i:=7) (N:=some 24) (v:=?_) (a':=?_) (mB_ 10 255) rfl rfl (take_ofW HT_.out HW_.out (by kernel_rfl)) (fun _ _ _ h=>h) (Or.inl ⟨by rfl,?_⟩) hHeld ?_ ?_;rotate_left;(· rintro w' ⟨s0,s1,s2,s3,s4,s5,s6,s7⟩;go_simp;with_reducible rfl);rotate_left;(· simp only [Act.put,z1_,z2_,z3_,i64_w,i32_w];rfl)
        refine one_ (i:=8) (N:=some 25) (mB_ 10 511) rfl rfl (one_of HT_.out (by kernel_rfl)) (by decide) (fun K hK=>?_);refine goes_ Try.func10 (by kernel_rfl) rfl #[.agg #[.int .i8 ((rd_T31 l0 x5_1).f0),.int .i8 ((rd_T31 l0 x5_1).f1),.int .i8 ((rd_T31 l0 x5_1).f2),.int .i8 ((rd_T31 l0 x5_1).f3)],.agg #[.int .i8 ((rd_T31 l1 x5_1).f0),.int .i8 ((rd_T31 l1 x5_1).f1),.int .i8 ((rd_T31 l1 x5_1).f2),.int .i8 ((rd_T31 l1 x5_1).f3)]] (by rfl) rfl rfl (by (try simp only [List.map_toArray,List.map_cons,List.map_nil]);first|done|rfl|(simp only [List.length_drop,List.length_take];rfl)) ?_
        with_reducible refine (laws_eqSlab.calls ((rd_T31 l0 x5_1).f0) ((rd_T31 l0 x5_1).f1) ((rd_T31 l0 x5_1).f2) ((rd_T31 l0 x5_1).f3) ((rd_T31 l1 x5_1).f0) ((rd_T31 l1 x5_1).f1) ((rd_T31 l1 x5_1).f2) ((rd_T31 l1 x5_1).f3) true _ A7.out).mono ?_
        rintro e w10 ⟨rfl,hb⟩;refine ⟨_,rfl,?_⟩;replace HB:=am_ (bT_ HB.out hb);(try clear hb hb2 hk hi);refine hK.out _ _ ⟨((HB.out.cell (bl_ w _ hw286_0)).trans hw286_0),((HB.out.cell (bl_ w _ hw286_1)).trans hw286_1),((HB.out.cell (bl_ w _ hw286_2)).trans hw286_2),((HB.out.cell (bl_ w _ hw286_3)).trans hw286_3),((HB.out.cell (bl_ w _ hw287_0)).trans hw287_0),((HB.out.cell (bl_ w _ hw287_1)).trans hw287_1),((HB.out.cell (bl_ w _ hw287_2)).trans hw287_2),((HB.out.cell (bl_ w _ hw287_3)).trans hw287_3)⟩ (fun hHeld=>?_);clear hK K;refine norm_ (a':=?_) ?_ ?_;rotate_left
        · show Act.put _ (some 25) _ = _;simp only [Act.put,z1_,z2_,z3_,i64_w,i32_w];rfl
        refine pure_ (i:=9) (N:=some 26) (v:=?_) (a':=?_) (mB_ 10 1023) rfl rfl (any_of HT_.out (by kernel_rfl)) (fun _ _ _ h=>h) (Or.inl ⟨by rfl,?_⟩) ?_ ?_;rotate_left;(· intro w';go_simp;with_reducible rfl);rotate_left;(· simp only [Act.put,z1_,z2_,z3_,i64_w,i32_w];rfl)
        refine done_ (done_of HT_.out (by kernel_rfl)) ?_
        try go_wp2
        go_roundg k1
        case measure=>have:=HK1.out;omega
        case rel=>exact ⟨(wrap64 (x5_1 + 1)),(by first|rfl|(simp;done)|(simp [*];done)),H',⟨by have:=HK1.out;omega⟩,⟨by repeat (first|(with_reducible first|exact HB.out|apply bA_|apply bN_|apply bD_)|exact HB.out)⟩⟩
       ·
        replace c8:=Bool.eq_false_iff.mpr c8;subst c8;have H1 : (some false) = some r:=by rw [if_neg (show ¬ (false = true) by decide)] at H;exact H
        clear H;have H:=H1;clear H1;obtain rfl:=Option.some.inj H
        try go_wp2
        replace HB:=am_ (bD_ HB.out);have p286 : 0≤(x5_1 : Int):=od_ (by first|(with_reducible assumption)|assumption);have q286 : x5_1 < (l0.length : Int):=od_ (by first|(with_reducible assumption)|assumption);obtain ⟨ad286,e286,hx286_0,hx286_1,hx286_2,hx286_3⟩:=at_T31 HR0.out x5_1 p286 q286;have hw286_3:=hx286_3;have hw286_2:=hx286_2;have hw286_1:=hx286_1;have hw286_0:=hx286_0
        cases e286
        replace hx286_0:=(HB.out.cell (bl_ w _ hx286_0)).trans hx286_0;replace hx286_1:=(HB.out.cell (bl_ w _ hx286_1)).trans hx286_1;replace hx286_2:=(HB.out.cell (bl_ w _ hx286_2)).trans hx286_2;replace hx286_3:=(HB.out.cell (bl_ w _ hx286_3)).trans hx286_3;replace p286:=eq_true p286;replace q286:=eq_true q286;have p287 : 0≤(x5_1 : Int):=od_ (by first|(with_reducible assumption)|assumption);have q287 : x5_1 < (l1.length : Int):=od_ (by first|(with_reducible assumption)|assumption);obtain ⟨ad287,e287,hx287_0,hx287_1,hx287_2,hx287_3⟩:=at_T31 HR1.out x5_1 p287 q287;have hw287_3:=hx287_3;have hw287_2:=hx287_2;have hw287_1:=hx287_1;have hw287_0:=hx287_0
        cases e287
        replace hx287_0:=(HB.out.cell (bl_ w _ hx287_0)).trans hx287_0;replace hx287_1:=(HB.out.cell (bl_ w _ hx287_1)).trans hx287_1;replace hx287_2:=(HB.out.cell (bl_ w _ hx287_2)).trans hx287_2;replace hx287_3:=(HB.out.cell (bl_ w _ hx287_3)).trans hx287_3;replace p287:=eq_true p287;replace q287:=eq_true q287;refine start_ (n:=10) (S:=fun w'=>w'.cell? (ad286.add ((x5_1).toNat * 4)) = some (.int .i8 ((rd_T31 l0 x5_1).f0)) ∧ w'.cell? ⟨(ad286.add ((x5_1).toNat * 4)).block,(ad286.add ((x5_1).toNat * 4)).off + 1,none⟩ = some (.int .i8 ((rd_T31 l0 x5_1).f1)) ∧ w'.cell? ⟨(ad286.add ((x5_1).toNat * 4)).block,(ad286.add ((x5_1).toNat * 4)).off + 2,none⟩ = some (.int .i8 ((rd_T31 l0 x5_1).f2)) ∧ w'.cell? ⟨(ad286.add ((x5_1).toNat * 4)).block,(ad286.add ((x5_1).toNat * 4)).off + 3,none⟩ = some (.int .i8 ((rd_T31 l0 x5_1).f3)) ∧ w'.cell? (ad287.add ((x5_1).toNat * 4)) = some (.int .i8 ((rd_T31 l1 x5_1).f0)) ∧ w'.cell? ⟨(ad287.add ((x5_1).toNat * 4)).block,(ad287.add ((x5_1).toNat * 4)).off + 1,none⟩ = some (.int .i8 ((rd_T31 l1 x5_1).f1)) ∧ w'.cell? ⟨(ad287.add ((x5_1).toNat * 4)).block,(ad287.add ((x5_1).toNat * 4)).off + 2,none⟩ = some (.int .i8 ((rd_T31 l1 x5_1).f2)) ∧ w'.cell? ⟨(ad287.add ((x5_1).toNat * 4)).block,(ad287.add ((x5_1).toNat * 4)).off + 3,none⟩ = some (.int .i8 ((rd_T31 l1 x5_1).f3))) (ds:=[]) (mB_ 10 0) (by kernel_rfl) rfl rfl ⟨((HB.out.cell (bl_ w _ hw286_0)).trans hw286_0),((HB.out.cell (bl_ w _ hw286_1)).trans hw286_1),((HB.out.cell (bl_ w _ hw286_2)).trans hw286_2),((HB.out.cell (bl_ w _ hw286_3)).trans hw286_3),((HB.out.cell (bl_ w _ hw287_0)).trans hw287_0),((HB.out.cell (bl_ w _ hw287_1)).trans hw287_1),((HB.out.cell (bl_ w _ hw287_2)).trans hw287_2),((HB.out.cell (bl_ w _ hw287_3)).trans hw287_3)⟩ (fun hHeld=>?_);refine with_tabW laws_eqSlabS.tab6 laws_eqSlabS.bits6 (fun HT_ HW_=>?_);generalize wr.drew = w11 at HB hx286_0 hx286_1 hx286_2 hx286_3 hx287_0 hx287_1 hx287_2 hx287_3 hHeld ⊢;refine pure_ (i:=0) (N:=some 17) (v:=?_) (a':=?_) (mB_ 10 1) rfl rfl (any_of HT_.out (by kernel_rfl)) (fun _ _ _ h=>h) (Or.inl ⟨by rfl,?_⟩) ?_ ?_;rotate_left;(· intro w';go_simp;with_reducible rfl);rotate_left;(· simp only [Act.put,z1_,z2_,z3_,i64_w,i32_w];rfl)
        refine pure_ (i:=1) (N:=some 18) (v:=?_) (a':=?_) (mB_ 10 3) rfl rfl (any_of HT_.out (by kernel_rfl)) (fun _ _ _ h=>h) (Or.inl ⟨by rfl,?_⟩) ?_ ?_;rotate_left;(· intro w';go_simp;with_reducible rfl);rotate_left;(· simp only [Act.put,z1_,z2_,z3_,i64_w,i32_w];rfl)
        refine pure_ (i:=2) (N:=some 19) (v:=?_) (a':=?_) (mB_ 10 7) rfl rfl (any_of HT_.out (by kernel_rfl)) (fun _ _ _ h=>h) (Or.inl ⟨by rfl,?_⟩) ?_ ?_;rotate_left;(· intro w';go_simp;with_reducible rfl);rotate_left;(· simp only [Act.put,z1_,z2_,z3_,i64_w,i32_w];rfl)
        refine pure_ (i:=4) (N:=some 21) (v:=?_) (a':=?_) (mB_ 10 23) rfl rfl (any_of HT_.out (by kernel_rfl)) (fun _ _ _ h=>h) (Or.inl ⟨by rfl,?_⟩) ?_ ?_;rotate_left;(· intro w';go_simp;with_reducible rfl);rotate_left;(· simp only [Act.put,z1_,z2_,z3_,i64_w,i32_w];rfl)
        refine pure_ (i:=5) (N:=some 22) (v:=?_) (a':=?_) (mB_ 10 55) rfl rfl (any_of HT_.out (by kernel_rfl)) (fun _ _ _ h=>h) (Or.inl ⟨by rfl,?_⟩) ?_ ?_;rotate_left;(· intro w';go_simp;with_reducible rfl);rotate_left;(· simp only [Act.put,z1_,z2_,z3_,i64_w,i32_w];rfl)
        refine pure_ (i:=6) (N:=some 23) (v:=?_) (a':=?_) (mB_ 10 119) rfl rfl (any_of HT_.out (by kernel_rfl)) (fun _ _ _ h=>h) (Or.inl ⟨by rfl,?_⟩) ?_ ?_;rotate_left;(· intro w';go_simp;with_reducible rfl);rotate_left;(· simp only [Act.put,z1_,z2_,z3_,i64_w,i32_w];rfl)
        refine take_ (i:=3) (N:=some 20) (v:=?_) (a':=?_) (mB_ 10 127) rfl rfl (take_ofW HT_.out HW_.out (by kernel_rfl)) (fun _ _ _ h=>h) (Or.inl ⟨by rfl,?_⟩) hHeld ?_ ?_;rotate_left;(· rintro w' ⟨s0,s1,s2,s3,s4,s5,s6,s7⟩;go_simp;with_reducible rfl);rotate_left;(· simp only [Act.put,z1_,z2_,z3_,i64_w,i32_w];rfl)
        refine take_ (i:=7) (N:=some 24) (v:=?_) (a':=?_) (mB_ 10 255) rfl rfl (take_ofW HT_.out HW_.out (by kernel_rfl)) (fun _ _ _ h=>h) (Or.inl ⟨by rfl,?_⟩) hHeld ?_ ?_;rotate_left;(· rintro w' ⟨s0,s1,s2,s3,s4,s5,s6,s7⟩;go_simp;with_reducible rfl);rotate_left;(· simp only [Act.put,z1_,z2_,z3_,i64_w,i32_w];rfl)
        refine one_ (i:=8) (N:=some 25) (mB_ 10 511) rfl rfl (one_of HT_.out (by kernel_rfl)) (by decide) (fun K hK=>?_);refine goes_ Try.func10 (by kernel_rfl) rfl #[.agg #[.int .i8 ((rd_T31 l0 x5_1).f0),.int .i8 ((rd_T31 l0 x5_1).f1),.int .i8 ((rd_T31 l0 x5_1).f2),.int .i8 ((rd_T31 l0 x5_1).f3)],.agg #[.int .i8 ((rd_T31 l1 x5_1).f0),.int .i8 ((rd_T31 l1 x5_1).f1),.int .i8 ((rd_T31 l1 x5_1).f2),.int .i8 ((rd_T31 l1 x5_1).f3)]] (by rfl) rfl rfl (by (try simp only [List.map_toArray,List.map_cons,List.map_nil]);first|done|rfl|(simp only [List.length_drop,List.length_take];rfl)) ?_
        with_reducible refine (laws_eqSlab.calls ((rd_T31 l0 x5_1).f0) ((rd_T31 l0 x5_1).f1) ((rd_T31 l0 x5_1).f2) ((rd_T31 l0 x5_1).f3) ((rd_T31 l1 x5_1).f0) ((rd_T31 l1 x5_1).f1) ((rd_T31 l1 x5_1).f2) ((rd_T31 l1 x5_1).f3) false _ A7.out).mono ?_
        rintro e w12 ⟨rfl,hb⟩;refine ⟨_,rfl,?_⟩;replace HB:=am_ (bT_ HB.out hb);(try clear hb hb2 hk hi);refine hK.out _ _ ⟨((HB.out.cell (bl_ w _ hw286_0)).trans hw286_0),((HB.out.cell (bl_ w _ hw286_1)).trans hw286_1),((HB.out.cell (bl_ w _ hw286_2)).trans hw286_2),((HB.out.cell (bl_ w _ hw286_3)).trans hw286_3),((HB.out.cell (bl_ w _ hw287_0)).trans hw287_0),((HB.out.cell (bl_ w _ hw287_1)).trans hw287_1),((HB.out.cell (bl_ w _ hw287_2)).trans hw287_2),((HB.out.cell (bl_ w _ hw287_3)).trans hw287_3)⟩ (fun hHeld=>?_);clear hK K;refine norm_ (a':=?_) ?_ ?_;rotate_left
        · show Act.put _ (some 25) _ = _;simp only [Act.put,z1_,z2_,z3_,i64_w,i32_w];rfl
        refine pure_ (i:=9) (N:=some 26) (v:=?_) (a':=?_) (mB_ 10 1023) rfl rfl (any_of HT_.out (by kernel_rfl)) (fun _ _ _ h=>h) (Or.inl ⟨by rfl,?_⟩) ?_ ?_;rotate_left;(· intro w';go_simp;with_reducible rfl);rotate_left;(· simp only [Act.put,z1_,z2_,z3_,i64_w,i32_w];rfl)
        refine done_ (done_of HT_.out (by kernel_rfl)) ?_
        try go_wp2
        go_ret
        exact ⟨by first|rfl|(simp [errW_none,errW_some] <;> rfl)|(simp [*,errW_none,errW_some] <;> rfl),by repeat (first|(with_reducible first|exact HB.out|apply bA_|apply bN_|apply bD_)|exact HB.out)⟩
      · rw [if_neg c6] at H;exact absurd H (by simp)
     · rw [if_neg c5] at H;exact absurd H (by simp)
    ·
     rw [if_neg c4] at H;have c4b0 : decide (x5_1 < (l0.length : Int)) = false:=decide_eq_false c4;clear c4;obtain rfl:=Option.some.inj H
     go_wp2
     go_ret
     exact ⟨by first|rfl|(simp [errW_none,errW_some] <;> rfl)|(simp [*,errW_none,errW_some] <;> rfl),by repeat (first|(with_reducible first|exact HB.out|apply bA_|apply bN_|apply bD_)|exact HB.out)⟩
 ·
  rw [if_neg c3] at H;have c3b0 : ((l0.length : Int) == (l1.length : Int)) = false:=beq_eq_false_iff_ne.mpr c3;have c3b1 : ((l0.length : Int) != (l1.length : Int)) = true:=bne_iff_ne.mpr c3;have c3b2 : (l0.length == l1.length) = false:=by first|simpa using c3|(simp at c3 ⊢;omega)
  obtain rfl:=Option.some.inj H
  go_enter Try.func27,Try.ntmps27
  go_wp2
  go_ret
  exact ⟨by first|rfl|(simp [errW_none,errW_some] <;> rfl)|(simp [*,errW_none,errW_some] <;> rfl),by repeat (first|(with_reducible first|exact HB.out|apply bA_|apply bN_|apply bD_)|exact HB.out)⟩
def laws_markSlabS.l0 : Nat → List (S31) → Int → Int → Option (Int × (List (S31)))
 | 0,_,_,_=>none
 | k + 1,x0,x1,x5=>if x5 < (x0.length : Int) then (if 0≤x5 then ((some (x0.set (x5 : Int).toNat (⟨IntKind.i8.wrap (x1),(rd_T31 x0 x5).f1,(rd_T31 x0 x5).f2,(rd_T31 x0 x5).f3⟩ : S31) : List (S31))).bind fun y292=>((some (y292.set (x5 : Int).toNat (⟨(rd_T31 y292 x5).f0,IntKind.i8.wrap (wrap64 (x1 + 1)),(rd_T31 y292 x5).f2,(rd_T31 y292 x5).f3⟩ : S31) : List (S31))).bind fun y293=>((some (y293.set (x5 : Int).toNat (⟨(rd_T31 y293 x5).f0,(rd_T31 y293 x5).f1,IntKind.i8.wrap (wrap64 ((wrap64 (x1 + 1)) + 1)),(rd_T31 y293 x5).f3⟩ : S31) : List (S31))).bind fun y294=>(laws_markSlabS.l0 k (y294.set (x5 : Int).toNat (⟨(rd_T31 y294 x5).f0,(rd_T31 y294 x5).f1,(rd_T31 y294 x5).f2,IntKind.i8.wrap (wrap64 ((wrap64 ((wrap64 (x1 + 1)) + 1)) + 1))⟩ : S31)) (wrap64 ((wrap64 ((wrap64 ((wrap64 (x1 + 1)) + 1)) + 1)) + 1)) (wrap64 (x5 + 1)))))) else (none)) else (some (x1,x0))
def laws_markSlabS.f (k : Nat) (l0 : List (S31)) (a1 : Int) : Option (Int × (List (S31))) := laws_markSlabS.l0 k l0 a1 0
theorem laws_markSlabS.mono_l : ∀ k, (∀ y0 y1 y2, LeO (laws_markSlabS.l0 k y0 y1 y2) (laws_markSlabS.l0 (k + 1) y0 y1 y2))
 | 0=>fun _ _ _ r h=>by simp [laws_markSlabS.l0] at h
 | k + 1=>by
  have ih0:=laws_markSlabS.mono_l k
  ·
   intro y0 y1 y2
   unfold laws_markSlabS.l0
   repeat' first
   | (with_reducible exact ih0 _ _ _)
   | (with_reducible exact LeO.refl _)
   | (with_reducible exact LeO.none _)
   | (with_reducible refine LeO.ite ?_ ?_)
   | (with_reducible refine LeO.bind ?_ (fun _=>?_))
   | exact ih0 _ _ _
   | exact LeO.none _
   | refine LeO.ite ?_ ?_
   | refine LeO.bind ?_ (fun _=>?_)
theorem laws_markSlabS.mono : ∀ a0 a1 k, LeO (laws_markSlabS.f k a0 a1) (laws_markSlabS.f (k + 1) a0 a1) := by
 intro a0 a1 k;have ih0:=laws_markSlabS.mono_l k
 unfold laws_markSlabS.f
 repeat' first
   | (with_reducible exact ih0 _ _ _)
   | (with_reducible exact LeO.refl _)
   | (with_reducible exact LeO.none _)
   | (with_reducible refine LeO.ite ?_ ?_)
   | (with_reducible refine LeO.bind ?_ (fun _=>?_))
   | exact ih0 _ _ _
   | exact LeO.none _
   | refine LeO.ite ?_ ?_
   | refine LeO.bind ?_ (fun _=>?_)
set_option maxHeartbeats 8000000 in
set_option maxRecDepth 100000 in
theorem laws_markSlabS.calls (k : Nat) (P0_ : Nat → Prop) (u9000_ : Value) (l0 : List (S31)) (a1 : Int) (r1 : Int) (r2 : List (S31)) (w0 w : World) (hB : Below w0.heap.size w0 w) (ho0 : Kd.R k31 31 w w0.heap.size P0_ u9000_ l0) (h : laws_markSlabS.f k l0 a1 = some (r1, r2)) :
  Calls Try.prog 28 #[u9000_,.int .i64 a1] w fun e w'=>e = .returned (.int .i64 r1) ∧ Kd.R k31 31 w' w0.heap.size (fun k_=>(P0_ k_ ∨ w.heap.size≤k_)) u9000_ r2 ∧ Below w0.heap.size w0 w' ∧ Kept w w' (fun k_=>P0_ k_):=by
 have HO0:=am_ (show Kd.R k31 31 w w0.heap.size (fun k_=>(P0_ k_ ∨ w.heap.size≤k_)) u9000_ l0 from rM_ ho0 (fun k_ hk=>(.inl hk)));have HK:=am_ (Kept.refl w (fun k_=>P0_ k_));have HW0:=am_ hB.size;have HB:=am_ hB;clear hB;have H : (laws_markSlabS.l0 k l0 a1 0) = some (r1,r2):=h;clear h;have H':=am_ H;clear H
 go_enter Try.func28,Try.ntmps28
 go_wp2
 go_loopg [1,5] k (fun kq v1 v5 w'=>∃ (x0_1 : List (S31)) (x1_1 : Int) (x5_1 : Int),v1 = .int .i64 x1_1 ∧ v5 = .int .i64 x5_1 ∧ Aside0 (laws_markSlabS.l0 kq x0_1 x1_1 x5_1 = some (r1,r2)) ∧ Aside0 (kq≤k) ∧ Aside0 (Kd.R k31 31 w' w0.heap.size (fun k_=>(P0_ k_ ∨ w.heap.size≤k_)) u9000_ x0_1) ∧ Aside0 (Kept w w' (fun k_=>P0_ k_)) ∧ Aside0 (Below w0.heap.size w0 w'))
 case atStart=>exact ⟨(l0),(a1),(0),(by first|rfl|(simp;done)|(simp [*];done)),(by first|rfl|(simp;done)|(simp [*];done)),H',⟨Nat.le_refl _⟩,⟨by (with_reducible repeat (first|apply Kd.R_alloc|apply Kd.R_drewN|apply Kd.R_drew));exact HO0.out⟩,⟨by repeat (first|(with_reducible first|exact HK.out|apply Kept.alloc|apply Kept.drewN|apply Kept.drew)|exact HK.out)⟩,⟨by repeat (first|(with_reducible first|exact HB.out|apply bA_|apply bN_|apply bD_)|exact HB.out)⟩⟩
 case round =>
  clear H';(try clear c2);(try clear p2);obtain ⟨x0_1,x1_1,x5_1,rfl,rfl,HA,HK1,HO_0,HK,HB⟩:=hrel
  cases gk with
  | zero=>exact absurd HA.out (by simp [laws_markSlabS.l0])
  | succ k1 =>
   have H:=HA.out;clear HA;simp only [laws_markSlabS.l0] at H
   by_cases c3 : x5_1 < (x0_1.length : Int)
   ·
    rw [if_pos c3] at H;have c3b0 : decide (x5_1 < (x0_1.length : Int)) = true:=decide_eq_true c3;clear c3
    by_cases c4 : 0≤x5_1
    ·
     rw [if_pos c4] at H;have c4b0 : decide (0≤x5_1) = true:=decide_eq_true c4;clear c4;obtain ⟨y292,hy292⟩ : ∃ y_ : List (S31),y_ = (x0_1.set (x5_1 : Int).toNat (⟨IntKind.i8.wrap (x1_1),(rd_T31 x0_1 x5_1).f1,(rd_T31 x0_1 x5_1).f2,(rd_T31 x0_1 x5_1).f3⟩ : S31)):=⟨_,rfl⟩
     replace H : ((some (y292.set (x5_1 : Int).toNat (⟨(rd_T31 y292 x5_1).f0,IntKind.i8.wrap (wrap64 (x1_1 + 1)),(rd_T31 y292 x5_1).f2,(rd_T31 y292 x5_1).f3⟩ : S31) : List (S31))).bind fun y293=>((some (y293.set (x5_1 : Int).toNat (⟨(rd_T31 y293 x5_1).f0,(rd_T31 y293 x5_1).f1,IntKind.i8.wrap (wrap64 ((wrap64 (x1_1 + 1)) + 1)),(rd_T31 y293 x5_1).f3⟩ : S31) : List (S31))).bind fun y294=>(laws_markSlabS.l0 k1 (y294.set (x5_1 : Int).toNat (⟨(rd_T31 y294 x5_1).f0,(rd_T31 y294 x5_1).f1,(rd_T31 y294 x5_1).f2,IntKind.i8.wrap (wrap64 ((wrap64 ((wrap64 (x1_1 + 1)) + 1)) + 1))⟩ : S31)) (wrap64 ((wrap64 ((wrap64 ((wrap64 (x1_1 + 1)) + 1)) + 1)) + 1)) (wrap64 (x5_1 + 1))))) = some (r1,r2):=by first|(rw [hy292];with_reducible exact H)|(have H2_:=(Option.bind_some _ _).symm.trans H;rw [hy292];with_reducible exact H2_)|(have H2_:=(Option.bind_some _ _).symm.trans H;with_reducible exact H2_)|with_reducible exact H|(rw [hy292];exact H)|exact H
     have Ny292:=am_ hy292;clear hy292;obtain ⟨y293,hy293⟩ : ∃ y_ : List (S31),y_ = (y292.set (x5_1 : Int).toNat (⟨(rd_T31 y292 x5_1).f0,IntKind.i8.wrap (wrap64 (x1_1 + 1)),(rd_T31 y292 x5_1).f2,(rd_T31 y292 x5_1).f3⟩ : S31)):=⟨_,rfl⟩
     replace H : ((some (y293.set (x5_1 : Int).toNat (⟨(rd_T31 y293 x5_1).f0,(rd_T31 y293 x5_1).f1,IntKind.i8.wrap (wrap64 ((wrap64 (x1_1 + 1)) + 1)),(rd_T31 y293 x5_1).f3⟩ : S31) : List (S31))).bind fun y294=>(laws_markSlabS.l0 k1 (y294.set (x5_1 : Int).toNat (⟨(rd_T31 y294 x5_1).f0,(rd_T31 y294 x5_1).f1,(rd_T31 y294 x5_1).f2,IntKind.i8.wrap (wrap64 ((wrap64 ((wrap64 (x1_1 + 1)) + 1)) + 1))⟩ : S31)) (wrap64 ((wrap64 ((wrap64 ((wrap64 (x1_1 + 1)) + 1)) + 1)) + 1)) (wrap64 (x5_1 + 1)))) = some (r1,r2):=by first|(rw [hy293];with_reducible exact H)|(have H2_:=(Option.bind_some _ _).symm.trans H;rw [hy293];with_reducible exact H2_)|(have H2_:=(Option.bind_some _ _).symm.trans H;with_reducible exact H2_)|with_reducible exact H|(rw [hy293];exact H)|exact H
     have Ny293:=am_ hy293;clear hy293;obtain ⟨y294,hy294⟩ : ∃ y_ : List (S31),y_ = (y293.set (x5_1 : Int).toNat (⟨(rd_T31 y293 x5_1).f0,(rd_T31 y293 x5_1).f1,IntKind.i8.wrap (wrap64 ((wrap64 (x1_1 + 1)) + 1)),(rd_T31 y293 x5_1).f3⟩ : S31)):=⟨_,rfl⟩
     replace H : (laws_markSlabS.l0 k1 (y294.set (x5_1 : Int).toNat (⟨(rd_T31 y294 x5_1).f0,(rd_T31 y294 x5_1).f1,(rd_T31 y294 x5_1).f2,IntKind.i8.wrap (wrap64 ((wrap64 ((wrap64 (x1_1 + 1)) + 1)) + 1))⟩ : S31)) (wrap64 ((wrap64 ((wrap64 ((wrap64 (x1_1 + 1)) + 1)) + 1)) + 1)) (wrap64 (x5_1 + 1))) = some (r1,r2):=by first|(rw [hy294];with_reducible exact H)|(have H2_:=(Option.bind_some _ _).symm.trans H;rw [hy294];with_reducible exact H2_)|(have H2_:=(Option.bind_some _ _).symm.trans H;with_reducible exact H2_)|with_reducible exact H|(rw [hy294];exact H)|exact H
     have Ny294:=am_ hy294;clear hy294;obtain ⟨y295,hy295⟩ : ∃ y_ : List (S31),y_ = (y294.set (x5_1 : Int).toNat (⟨(rd_T31 y294 x5_1).f0,(rd_T31 y294 x5_1).f1,(rd_T31 y294 x5_1).f2,IntKind.i8.wrap (wrap64 ((wrap64 ((wrap64 (x1_1 + 1)) + 1)) + 1))⟩ : S31)):=⟨_,rfl⟩
     replace H : (laws_markSlabS.l0 k1 y295 (wrap64 ((wrap64 ((wrap64 ((wrap64 (x1_1 + 1)) + 1)) + 1)) + 1)) (wrap64 (x5_1 + 1))) = some (r1,r2):=by first|(rw [hy295];with_reducible exact H)|(have H2_:=(Option.bind_some _ _).symm.trans H;rw [hy295];with_reducible exact H2_)|(have H2_:=(Option.bind_some _ _).symm.trans H;with_reducible exact H2_)|with_reducible exact H|(rw [hy295];exact H)|exact H
     have Ny295:=am_ hy295;clear hy295;have H':=am_ H;clear H;obtain ⟨Ao9,co9,eo9⟩:=Kd.R_slice HO_0.out;subst eo9;have p5 : 0≤(x5_1 : Int):=od_ (by first|(with_reducible assumption)|assumption);have q5 : (x5_1 : Int) < ((x0_1.length : Int) : Int):=od_ (by first|(with_reducible assumption)|assumption);obtain ⟨go5,co5,eo5,gb5,gl5,cl5,HG5⟩:=Kd.R_form HO_0.out (by omega)
     (first|cases eo5|(injection eo5 with ea_ en_ ec_;(first|subst ea_|(injection ea_ with ea_;subst ea_));subst ec_;clear en_))
     have GB5:=am_ gb5;have GG5:=am_ HG5;clear gb5 gl5 HG5;have HMgo5:=am_ (show (P0_ go5 ∨ w.heap.size≤go5) from (HO_0.out.1 _ rfl));obtain ⟨ce5,hcl5,hM5,hcc5,hfr5⟩:=Kd.R_elem HO_0.out z31 (x5_1 : Int) p5 q5;obtain rfl:=k31_openM hM5;have hx5_0 : wr.cell? ⟨go5,(x5_1 : Int).toNat * 4,none⟩ = some (.int .i8 ((rd_T31 x0_1 x5_1).f0)):=hcc5 0 _ rfl;have hx5_1 : wr.cell? ⟨go5,(x5_1 : Int).toNat * 4 + 1,none⟩ = some (.int .i8 ((rd_T31 x0_1 x5_1).f1)):=hcc5 1 _ rfl;have hx5_2 : wr.cell? ⟨go5,(x5_1 : Int).toNat * 4 + 2,none⟩ = some (.int .i8 ((rd_T31 x0_1 x5_1).f2)):=hcc5 2 _ rfl;have hx5_3 : wr.cell? ⟨go5,(x5_1 : Int).toNat * 4 + 3,none⟩ = some (.int .i8 ((rd_T31 x0_1 x5_1).f3)):=hcc5 3 _ rfl;have hf5_0 : wr.frozen? ⟨go5,(x5_1 : Int).toNat * 4,none⟩ = false:=hfr5 0;have hf5_1 : wr.frozen? ⟨go5,(x5_1 : Int).toNat * 4 + 1,none⟩ = false:=hfr5 1;have hf5_2 : wr.frozen? ⟨go5,(x5_1 : Int).toNat * 4 + 2,none⟩ = false:=hfr5 2;have hf5_3 : wr.frozen? ⟨go5,(x5_1 : Int).toNat * 4 + 3,none⟩ = false:=hfr5 3;clear hcl5 hcc5 hfr5;(try clear hM5);replace p5:=eq_true p5;replace q5:=eq_true q5;have HX10:=am_ (show Kd.R k31 31 wr w0.heap.size (fun k_=>(P0_ k_ ∨ w.heap.size≤k_)) (.slice (some ⟨go5,0,none⟩) x0_1.length co9) x0_1 from HO_0.out);obtain ⟨ce10,hcl10,hM10,hcc10,hfr10⟩:=Kd.R_elem HX10.out z31 (x5_1 : Int) (od_ (by first|(with_reducible assumption)|assumption)) (by have h_ : (x5_1 : Int) < ((x0_1.length : Int) : Int):=od_ (by first|(with_reducible assumption)|assumption);first|exact h_|(have e_:=(Kd.R_reads' HO_0.out).1;omega)|simpa using h_);obtain rfl:=k31_openM hM10;have HP10:=Kd.R_seg HX10.out (x5_1 : Int) (od_ (by first|(with_reducible assumption)|assumption)) (by have h_ : (x5_1 : Int) < ((x0_1.length : Int) : Int):=od_ (by first|(with_reducible assumption)|assumption);first|exact h_|(have e_:=(Kd.R_reads' HO_0.out).1;omega)|simpa using h_) (seg:=[.int .i8 (IntKind.i8.wrap (x1_1))]) (j:=0) hcl10 hcc10 (show 1≤4 from by decide) (x':=(⟨IntKind.i8.wrap (x1_1),(rd_T31 x0_1 x5_1).f1,(rd_T31 x0_1 x5_1).f2,(rd_T31 x0_1 x5_1).f3⟩ : S31)) (k31_mkM _ _ _ (⟨IntKind.i8.wrap (x1_1),(rd_T31 x0_1 x5_1).f1,(rd_T31 x0_1 x5_1).f2,(rd_T31 x0_1 x5_1).f3⟩ : S31) ) (fun _ hk=>hk);have hx10_0:=hcc10 0 _ rfl;(try simp only [show (k31).sz = 4 from rfl,Nat.mul_one,Nat.add_zero] at hx10_0);have hf10_0:=hfr10 0;(try simp only [show (k31).sz = 4 from rfl,Nat.mul_one,Nat.add_zero] at hf10_0);clear hcl10 hcc10 hfr10;(try clear hM10)
     go_wp2_with (first|((with_reducible refine gate_store (t:=22) (p:=17) rfl ?_);refine store_event (t:=22) (p:=17) (v:=?vo_w11) (w1:=(wr.setCell ⟨go5,(x5_1 : Int).toNat * 4,none⟩ (.int .i8 (IntKind.i8.wrap (x1_1))))) ?hg ?ho ?hn ?hr ?_;(case ho=>rfl);(case hg=>rfl);(case hn=>rfl);(case hr=>first|(go_simp;done)|(go_simp;rfl));intro w11 hw;have hg : wr.grownBy w11 (some go5):=(by rw [hw];exact HP10.2);have hp_ : Kd.R k31 31 w11 w0.heap.size (fun k_=>(P0_ k_ ∨ w.heap.size≤k_)) (.slice (some ⟨go5,0,none⟩) x0_1.length co9) y292:=(by rw [hw,Ny292.out];exact HP10.1);clear HP10;have n0_:=am_ (hp_);have n1_:=am_ ((by rw [hw];exact bS_ (HB.out) GB5.out : Below w0.heap.size w0 w11));have n2_:=am_ (Kept.of_grown (S:=(fun k_=>P0_ k_)) hg HK.out (fun k_ e_=>(HO_0.out.1 k_ e_)));clear HO_0;clear HB;clear HK;have HO_0:=n0_;have HB:=n1_;have HK:=n2_;clear n0_ n1_ n2_;clear hg hw hp_;have p6 : 0≤(x5_1 : Int):=od_ (by first|(with_reducible assumption)|assumption);have q6 : (x5_1 : Int) < ((x0_1.length : Int) : Int):=od_ (by first|(with_reducible assumption)|assumption);obtain ⟨ce6,hcl6,hM6,hcc6,hfr6⟩:=Kd.R_elem HO_0.out z31 (x5_1 : Int) p6 q6;obtain rfl:=k31_openM hM6;have hx6_0 : w11.cell? ⟨go5,(x5_1 : Int).toNat * 4,none⟩ = some (.int .i8 ((rd_T31 y292 x5_1).f0)):=hcc6 0 _ rfl;have hx6_1 : w11.cell? ⟨go5,(x5_1 : Int).toNat * 4 + 1,none⟩ = some (.int .i8 ((rd_T31 y292 x5_1).f1)):=hcc6 1 _ rfl;have hx6_2 : w11.cell? ⟨go5,(x5_1 : Int).toNat * 4 + 2,none⟩ = some (.int .i8 ((rd_T31 y292 x5_1).f2)):=hcc6 2 _ rfl;have hx6_3 : w11.cell? ⟨go5,(x5_1 : Int).toNat * 4 + 3,none⟩ = some (.int .i8 ((rd_T31 y292 x5_1).f3)):=hcc6 3 _ rfl;have hf6_0 : w11.frozen? ⟨go5,(x5_1 : Int).toNat * 4,none⟩ = false:=hfr6 0;have hf6_1 : w11.frozen? ⟨go5,(x5_1 : Int).toNat * 4 + 1,none⟩ = false:=hfr6 1;have hf6_2 : w11.frozen? ⟨go5,(x5_1 : Int).toNat * 4 + 2,none⟩ = false:=hfr6 2;have hf6_3 : w11.frozen? ⟨go5,(x5_1 : Int).toNat * 4 + 3,none⟩ = false:=hfr6 3;clear hcl6 hcc6 hfr6;(try clear hM6);replace p6:=eq_true p6;replace q6:=eq_true q6;have HX12:=am_ (show Kd.R k31 31 w11 w0.heap.size (fun k_=>(P0_ k_ ∨ w.heap.size≤k_)) (.slice (some ⟨go5,0,none⟩) x0_1.length co9) y292 from HO_0.out);obtain ⟨ce12,hcl12,hM12,hcc12,hfr12⟩:=Kd.R_elem HX12.out z31 (x5_1 : Int) (od_ (by first|(with_reducible assumption)|assumption)) (by have h_ : (x5_1 : Int) < ((x0_1.length : Int) : Int):=od_ (by first|(with_reducible assumption)|assumption);first|exact h_|(have e_:=(Kd.R_reads' HO_0.out).1;omega)|simpa using h_);obtain rfl:=k31_openM hM12;have HP12:=Kd.R_seg HX12.out (x5_1 : Int) (od_ (by first|(with_reducible assumption)|assumption)) (by have h_ : (x5_1 : Int) < ((x0_1.length : Int) : Int):=od_ (by first|(with_reducible assumption)|assumption);first|exact h_|(have e_:=(Kd.R_reads' HO_0.out).1;omega)|simpa using h_) (seg:=[.int .i8 (IntKind.i8.wrap (wrap64 (x1_1 + 1)))]) (j:=1) hcl12 hcc12 (show 2≤4 from by decide) (x':=(⟨(rd_T31 y292 x5_1).f0,IntKind.i8.wrap (wrap64 (x1_1 + 1)),(rd_T31 y292 x5_1).f2,(rd_T31 y292 x5_1).f3⟩ : S31)) (k31_mkM _ _ _ (⟨(rd_T31 y292 x5_1).f0,IntKind.i8.wrap (wrap64 (x1_1 + 1)),(rd_T31 y292 x5_1).f2,(rd_T31 y292 x5_1).f3⟩ : S31) ) (fun _ hk=>hk);have hx12_1:=hcc12 1 _ rfl;(try simp only [show (k31).sz = 4 from rfl,Nat.mul_one,Nat.add_zero] at hx12_1);have hf12_1:=hfr12 1;(try simp only [show (k31).sz = 4 from rfl,Nat.mul_one,Nat.add_zero] at hf12_1);clear hcl12 hcc12 hfr12;(try clear hM12))|((with_reducible refine gate_store (t:=22) (p:=25) rfl ?_);refine store_event (t:=22) (p:=25) (v:=?vo_w13) (w1:=(w11.setCell ⟨go5,(x5_1 : Int).toNat * 4 + 1,none⟩ (.int .i8 (IntKind.i8.wrap (wrap64 (x1_1 + 1)))))) ?hg ?ho ?hn ?hr ?_;(case ho=>rfl);(case hg=>rfl);(case hn=>rfl);(case hr=>first|(go_simp;done)|(go_simp;rfl));intro w13 hw;have hg : w11.grownBy w13 (some go5):=(by rw [hw];exact HP12.2);have hp_ : Kd.R k31 31 w13 w0.heap.size (fun k_=>(P0_ k_ ∨ w.heap.size≤k_)) (.slice (some ⟨go5,0,none⟩) x0_1.length co9) y293:=(by rw [hw,Ny293.out];exact HP12.1);clear HP12;have n0_:=am_ (hp_);have n1_:=am_ ((by rw [hw];exact bS_ (HB.out) GB5.out : Below w0.heap.size w0 w13));have n2_:=am_ (Kept.of_grown (S:=(fun k_=>P0_ k_)) hg HK.out (fun k_ e_=>(HO_0.out.1 k_ e_)));clear HO_0;clear HB;clear HK;have HO_0:=n0_;have HB:=n1_;have HK:=n2_;clear n0_ n1_ n2_;clear hg hw hp_;have p7 : 0≤(x5_1 : Int):=od_ (by first|(with_reducible assumption)|assumption);have q7 : (x5_1 : Int) < ((x0_1.length : Int) : Int):=od_ (by first|(with_reducible assumption)|assumption);obtain ⟨ce7,hcl7,hM7,hcc7,hfr7⟩:=Kd.R_elem HO_0.out z31 (x5_1 : Int) p7 q7;obtain rfl:=k31_openM hM7;have hx7_0 : w13.cell? ⟨go5,(x5_1 : Int).toNat * 4,none⟩ = some (.int .i8 ((rd_T31 y293 x5_1).f0)):=hcc7 0 _ rfl;have hx7_1 : w13.cell? ⟨go5,(x5_1 : Int).toNat * 4 + 1,none⟩ = some (.int .i8 ((rd_T31 y293 x5_1).f1)):=hcc7 1 _ rfl;have hx7_2 : w13.cell? ⟨go5,(x5_1 : Int).toNat * 4 + 2,none⟩ = some (.int .i8 ((rd_T31 y293 x5_1).f2)):=hcc7 2 _ rfl;have hx7_3 : w13.cell? ⟨go5,(x5_1 : Int).toNat * 4 + 3,none⟩ = some (.int .i8 ((rd_T31 y293 x5_1).f3)):=hcc7 3 _ rfl;have hf7_0 : w13.frozen? ⟨go5,(x5_1 : Int).toNat * 4,none⟩ = false:=hfr7 0;have hf7_1 : w13.frozen? ⟨go5,(x5_1 : Int).toNat * 4 + 1,none⟩ = false:=hfr7 1;have hf7_2 : w13.frozen? ⟨go5,(x5_1 : Int).toNat * 4 + 2,none⟩ = false:=hfr7 2;have hf7_3 : w13.frozen? ⟨go5,(x5_1 : Int).toNat * 4 + 3,none⟩ = false:=hfr7 3;clear hcl7 hcc7 hfr7;(try clear hM7);replace p7:=eq_true p7;replace q7:=eq_true q7;have HX14:=am_ (show Kd.R k31 31 w13 w0.heap.size (fun k_=>(P0_ k_ ∨ w.heap.size≤k_)) (.slice (some ⟨go5,0,none⟩) x0_1.length co9) y293 from HO_0.out);obtain ⟨ce14,hcl14,hM14,hcc14,hfr14⟩:=Kd.R_elem HX14.out z31 (x5_1 : Int) (od_ (by first|(with_reducible assumption)|assumption)) (by have h_ : (x5_1 : Int) < ((x0_1.length : Int) : Int):=od_ (by first|(with_reducible assumption)|assumption);first|exact h_|(have e_:=(Kd.R_reads' HO_0.out).1;omega)|simpa using h_);obtain rfl:=k31_openM hM14;have HP14:=Kd.R_seg HX14.out (x5_1 : Int) (od_ (by first|(with_reducible assumption)|assumption)) (by have h_ : (x5_1 : Int) < ((x0_1.length : Int) : Int):=od_ (by first|(with_reducible assumption)|assumption);first|exact h_|(have e_:=(Kd.R_reads' HO_0.out).1;omega)|simpa using h_) (seg:=[.int .i8 (IntKind.i8.wrap (wrap64 ((wrap64 (x1_1 + 1)) + 1)))]) (j:=2) hcl14 hcc14 (show 3≤4 from by decide) (x':=(⟨(rd_T31 y293 x5_1).f0,(rd_T31 y293 x5_1).f1,IntKind.i8.wrap (wrap64 ((wrap64 (x1_1 + 1)) + 1)),(rd_T31 y293 x5_1).f3⟩ : S31)) (k31_mkM _ _ _ (⟨(rd_T31 y293 x5_1).f0,(rd_T31 y293 x5_1).f1,IntKind.i8.wrap (wrap64 ((wrap64 (x1_1 + 1)) + 1)),(rd_T31 y293 x5_1).f3⟩ : S31) ) (fun _ hk=>hk);have hx14_2:=hcc14 2 _ rfl;(try simp only [show (k31).sz = 4 from rfl,Nat.mul_one,Nat.add_zero] at hx14_2);have hf14_2:=hfr14 2;(try simp only [show (k31).sz = 4 from rfl,Nat.mul_one,Nat.add_zero] at hf14_2);clear hcl14 hcc14 hfr14;(try clear hM14))|((with_reducible refine gate_store (t:=22) (p:=33) rfl ?_);refine store_event (t:=22) (p:=33) (v:=?vo_w15) (w1:=(w13.setCell ⟨go5,(x5_1 : Int).toNat * 4 + 2,none⟩ (.int .i8 (IntKind.i8.wrap (wrap64 ((wrap64 (x1_1 + 1)) + 1)))))) ?hg ?ho ?hn ?hr ?_;(case ho=>rfl);(case hg=>rfl);(case hn=>rfl);(case hr=>first|(go_simp;done)|(go_simp;rfl));intro w15 hw;have hg : w13.grownBy w15 (some go5):=(by rw [hw];exact HP14.2);have hp_ : Kd.R k31 31 w15 w0.heap.size (fun k_=>(P0_ k_ ∨ w.heap.size≤k_)) (.slice (some ⟨go5,0,none⟩) x0_1.length co9) y294:=(by rw [hw,Ny294.out];exact HP14.1);clear HP14;have n0_:=am_ (hp_);have n1_:=am_ ((by rw [hw];exact bS_ (HB.out) GB5.out : Below w0.heap.size w0 w15));have n2_:=am_ (Kept.of_grown (S:=(fun k_=>P0_ k_)) hg HK.out (fun k_ e_=>(HO_0.out.1 k_ e_)));clear HO_0;clear HB;clear HK;have HO_0:=n0_;have HB:=n1_;have HK:=n2_;clear n0_ n1_ n2_;clear hg hw hp_;have p8 : 0≤(x5_1 : Int):=od_ (by first|(with_reducible assumption)|assumption);have q8 : (x5_1 : Int) < ((x0_1.length : Int) : Int):=od_ (by first|(with_reducible assumption)|assumption);obtain ⟨ce8,hcl8,hM8,hcc8,hfr8⟩:=Kd.R_elem HO_0.out z31 (x5_1 : Int) p8 q8;obtain rfl:=k31_openM hM8;have hx8_0 : w15.cell? ⟨go5,(x5_1 : Int).toNat * 4,none⟩ = some (.int .i8 ((rd_T31 y294 x5_1).f0)):=hcc8 0 _ rfl;have hx8_1 : w15.cell? ⟨go5,(x5_1 : Int).toNat * 4 + 1,none⟩ = some (.int .i8 ((rd_T31 y294 x5_1).f1)):=hcc8 1 _ rfl;have hx8_2 : w15.cell? ⟨go5,(x5_1 : Int).toNat * 4 + 2,none⟩ = some (.int .i8 ((rd_T31 y294 x5_1).f2)):=hcc8 2 _ rfl;have hx8_3 : w15.cell? ⟨go5,(x5_1 : Int).toNat * 4 + 3,none⟩ = some (.int .i8 ((rd_T31 y294 x5_1).f3)):=hcc8 3 _ rfl;have hf8_0 : w15.frozen? ⟨go5,(x5_1 : Int).toNat * 4,none⟩ = false:=hfr8 0;have hf8_1 : w15.frozen? ⟨go5,(x5_1 : Int).toNat * 4 + 1,none⟩ = false:=hfr8 1;have hf8_2 : w15.frozen? ⟨go5,(x5_1 : Int).toNat * 4 + 2,none⟩ = false:=hfr8 2;have hf8_3 : w15.frozen? ⟨go5,(x5_1 : Int).toNat * 4 + 3,none⟩ = false:=hfr8 3;clear hcl8 hcc8 hfr8;(try clear hM8);replace p8:=eq_true p8;replace q8:=eq_true q8;have HX16:=am_ (show Kd.R k31 31 w15 w0.heap.size (fun k_=>(P0_ k_ ∨ w.heap.size≤k_)) (.slice (some ⟨go5,0,none⟩) x0_1.length co9) y294 from HO_0.out);obtain ⟨ce16,hcl16,hM16,hcc16,hfr16⟩:=Kd.R_elem HX16.out z31 (x5_1 : Int) (od_ (by first|(with_reducible assumption)|assumption)) (by have h_ : (x5_1 : Int) < ((x0_1.length : Int) : Int):=od_ (by first|(with_reducible assumption)|assumption);first|exact h_|(have e_:=(Kd.R_reads' HO_0.out).1;omega)|simpa using h_);obtain rfl:=k31_openM hM16;have HP16:=Kd.R_seg HX16.out (x5_1 : Int) (od_ (by first|(with_reducible assumption)|assumption)) (by have h_ : (x5_1 : Int) < ((x0_1.length : Int) : Int):=od_ (by first|(with_reducible assumption)|assumption);first|exact h_|(have e_:=(Kd.R_reads' HO_0.out).1;omega)|simpa using h_) (seg:=[.int .i8 (IntKind.i8.wrap (wrap64 ((wrap64 ((wrap64 (x1_1 + 1)) + 1)) + 1)))]) (j:=3) hcl16 hcc16 (show 4≤4 from by decide) (x':=(⟨(rd_T31 y294 x5_1).f0,(rd_T31 y294 x5_1).f1,(rd_T31 y294 x5_1).f2,IntKind.i8.wrap (wrap64 ((wrap64 ((wrap64 (x1_1 + 1)) + 1)) + 1))⟩ : S31)) (k31_mkM _ _ _ (⟨(rd_T31 y294 x5_1).f0,(rd_T31 y294 x5_1).f1,(rd_T31 y294 x5_1).f2,IntKind.i8.wrap (wrap64 ((wrap64 ((wrap64 (x1_1 + 1)) + 1)) + 1))⟩ : S31) ) (fun _ hk=>hk);have hx16_3:=hcc16 3 _ rfl;(try simp only [show (k31).sz = 4 from rfl,Nat.mul_one,Nat.add_zero] at hx16_3);have hf16_3:=hfr16 3;(try simp only [show (k31).sz = 4 from rfl,Nat.mul_one,Nat.add_zero] at hf16_3);clear hcl16 hcc16 hfr16;(try clear hM16))|((with_reducible refine gate_store (t:=22) (p:=41) rfl ?_);refine store_event (t:=22) (p:=41) (v:=?vo_w17) (w1:=(w15.setCell ⟨go5,(x5_1 : Int).toNat * 4 + 3,none⟩ (.int .i8 (IntKind.i8.wrap (wrap64 ((wrap64 ((wrap64 (x1_1 + 1)) + 1)) + 1)))))) ?hg ?ho ?hn ?hr ?_;(case ho=>rfl);(case hg=>rfl);(case hn=>rfl);(case hr=>first|(go_simp;done)|(go_simp;rfl));intro w17 hw;have hg : w15.grownBy w17 (some go5):=(by rw [hw];exact HP16.2);have hp_ : Kd.R k31 31 w17 w0.heap.size (fun k_=>(P0_ k_ ∨ w.heap.size≤k_)) (.slice (some ⟨go5,0,none⟩) x0_1.length co9) y295:=(by rw [hw,Ny295.out];exact HP16.1);clear HP16;have n0_:=am_ (hp_);have n1_:=am_ ((by rw [hw];exact bS_ (HB.out) GB5.out : Below w0.heap.size w0 w17));have n2_:=am_ (Kept.of_grown (S:=(fun k_=>P0_ k_)) hg HK.out (fun k_ e_=>(HO_0.out.1 k_ e_)));clear HO_0;clear HB;clear HK;have HO_0:=n0_;have HB:=n1_;have HK:=n2_;clear n0_ n1_ n2_;clear hg hw hp_))
     go_roundg k1
     case measure=>have:=HK1.out;omega
     case rel=>exact ⟨(y295),(wrap64 ((wrap64 ((wrap64 ((wrap64 (x1_1 + 1)) + 1)) + 1)) + 1)),(wrap64 (x5_1 + 1)),(by first|rfl|(simp;done)|(simp [*];done)),(by first|rfl|(simp;done)|(simp [*];done)),H',⟨by have:=HK1.out;omega⟩,⟨by (with_reducible repeat (first|apply Kd.R_alloc|apply Kd.R_drewN|apply Kd.R_drew));exact HO_0.out⟩,⟨by repeat (first|(with_reducible first|exact HK.out|apply Kept.alloc|apply Kept.drewN|apply Kept.drew)|exact HK.out)⟩,⟨by repeat (first|(with_reducible first|exact HB.out|apply bA_|apply bN_|apply bD_)|exact HB.out)⟩⟩
    · rw [if_neg c4] at H;exact absurd H (by simp)
   ·
    rw [if_neg c3] at H;have c3b0 : decide (x5_1 < (x0_1.length : Int)) = false:=decide_eq_false c3;clear c3;simp only [Option.some.injEq,Prod.mk.injEq] at H;obtain ⟨rfl,rfl⟩:=H;obtain ⟨Ao18,co18,eo18⟩:=Kd.R_slice HO_0.out;subst eo18
    go_wp2
    go_ret
    exact ⟨by first|rfl|(simp [errW_none,errW_some] <;> rfl)|(simp [*,errW_none,errW_some] <;> rfl),by (with_reducible repeat (first|apply Kd.R_alloc|apply Kd.R_drewN|apply Kd.R_drew));exact HO_0.out,by repeat (first|(with_reducible first|exact HB.out|apply bA_|apply bN_|apply bD_)|exact HB.out),by repeat (first|(with_reducible first|exact HK.out|apply Kept.alloc|apply Kept.drewN|apply Kept.drew)|exact HK.out)⟩
def laws_heldSlabS.l0 : Nat → List (S31) → Int → Int → Option (Int)
 | 0,_,_,_=>none
 | k + 1,x0,x1,x5=>if x5 < (x0.length : Int) then (if 0≤x5 then (if ((rd_T31 x0 x5).f0) = (IntKind.i8.wrap (x1)) then (if ((rd_T31 x0 x5).f1) = (IntKind.i8.wrap (wrap64 (x1 + 1))) then (if ((rd_T31 x0 x5).f2) = (IntKind.i8.wrap (wrap64 ((wrap64 (x1 + 1)) + 1))) then (if ((rd_T31 x0 x5).f3) = (IntKind.i8.wrap (wrap64 ((wrap64 ((wrap64 (x1 + 1)) + 1)) + 1))) then (laws_heldSlabS.l0 k x0 (wrap64 ((wrap64 ((wrap64 ((wrap64 (x1 + 1)) + 1)) + 1)) + 1)) (wrap64 (x5 + 1))) else (some (-1))) else (some (-1))) else (some (-1))) else (some (-1))) else (none)) else (some x1)
def laws_heldSlabS.f (k : Nat) (l0 : List (S31)) (a1 : Int) : Option (Int) := laws_heldSlabS.l0 k l0 a1 0
theorem laws_heldSlabS.mono_l : ∀ k, (∀ y0 y1 y2, LeO (laws_heldSlabS.l0 k y0 y1 y2) (laws_heldSlabS.l0 (k + 1) y0 y1 y2))
 | 0=>fun _ _ _ r h=>by simp [laws_heldSlabS.l0] at h
 | k + 1=>by
  have ih0:=laws_heldSlabS.mono_l k
  ·
   intro y0 y1 y2
   unfold laws_heldSlabS.l0
   repeat' first
   | (with_reducible exact ih0 _ _ _)
   | (with_reducible exact LeO.refl _)
   | (with_reducible exact LeO.none _)
   | (with_reducible refine LeO.ite ?_ ?_)
   | (with_reducible refine LeO.bind ?_ (fun _=>?_))
   | exact ih0 _ _ _
   | exact LeO.none _
   | refine LeO.ite ?_ ?_
   | refine LeO.bind ?_ (fun _=>?_)
theorem laws_heldSlabS.mono : ∀ a0 a1 k, LeO (laws_heldSlabS.f k a0 a1) (laws_heldSlabS.f (k + 1) a0 a1) := by
 intro a0 a1 k;have ih0:=laws_heldSlabS.mono_l k
 unfold laws_heldSlabS.f
 repeat' first
   | (with_reducible exact ih0 _ _ _)
   | (with_reducible exact LeO.refl _)
   | (with_reducible exact LeO.none _)
   | (with_reducible refine LeO.ite ?_ ?_)
   | (with_reducible refine LeO.bind ?_ (fun _=>?_))
   | exact ih0 _ _ _
   | exact LeO.none _
   | refine LeO.ite ?_ ?_
   | refine LeO.bind ?_ (fun _=>?_)
set_option maxHeartbeats 8000000 in
set_option maxRecDepth 100000 in
theorem laws_heldSlabS.calls (k : Nat) (A0 : Option Addr) (c0 : Nat) (l0 : List (S31)) (a1 : Int) (r : Int) (w : World) (hr0 : Kd.C k31 w A0 l0.length l0) (hc0 : l0.length ≤ c0) (h : laws_heldSlabS.f k l0 a1 = some r) :
  Calls Try.prog 29 #[.slice A0 l0.length c0,.int .i64 a1] w fun e w'=>e = .returned (.int .i64 r) ∧ Drawn0 w w':=by
 have HR0:=am_ hr0;have HC0:=am_ hc0;clear hr0 hc0;have H : (laws_heldSlabS.l0 k l0 a1 0) = some r:=h;clear h;have H':=am_ H;clear H
 go_enter Try.func29,Try.ntmps29
 go_wp2
 go_loopg [1,5] k (fun kq v1 v5 w'=>∃ (x1_1 : Int) (x5_1 : Int),v1 = .int .i64 x1_1 ∧ v5 = .int .i64 x5_1 ∧ Aside0 (laws_heldSlabS.l0 kq l0 x1_1 x5_1 = some r) ∧ Aside0 (kq≤k) ∧ Drawn0 w w')
 case atStart=>exact ⟨(a1),(0),(by first|rfl|(simp;done)|(simp [*];done)),(by first|rfl|(simp;done)|(simp [*];done)),H',⟨Nat.le_refl _⟩,by repeat (first|exact Drawn0.refl _|apply Drawn0.step)⟩
 case round =>
  clear H';(try clear c2);(try clear p2);obtain ⟨x1_1,x5_1,rfl,rfl,HA,HK1,⟨m1,rfl⟩⟩:=hrel
  cases gk with
  | zero=>exact absurd HA.out (by simp [laws_heldSlabS.l0])
  | succ k1 =>
   have H:=HA.out;clear HA;simp only [laws_heldSlabS.l0] at H
   by_cases c3 : x5_1 < (l0.length : Int)
   ·
    rw [if_pos c3] at H;have c3b0 : decide (x5_1 < (l0.length : Int)) = true:=decide_eq_true c3;clear c3
    by_cases c4 : 0≤x5_1
    ·
     rw [if_pos c4] at H;have c4b0 : decide (0≤x5_1) = true:=decide_eq_true c4;clear c4
     by_cases c5 : ((rd_T31 l0 x5_1).f0) = (IntKind.i8.wrap (x1_1))
     ·
      rw [if_pos c5] at H;have c5b0 : (((rd_T31 l0 x5_1).f0) == (IntKind.i8.wrap (x1_1))) = true:=beq_iff_eq.mpr c5;have c5b1 : (((rd_T31 l0 x5_1).f0) != (IntKind.i8.wrap (x1_1))) = false:=bne_eq_false_iff_eq.mpr c5;clear c5
      by_cases c6 : ((rd_T31 l0 x5_1).f1) = (IntKind.i8.wrap (wrap64 (x1_1 + 1)))
      ·
       rw [if_pos c6] at H;have c6b0 : (((rd_T31 l0 x5_1).f1) == (IntKind.i8.wrap (wrap64 (x1_1 + 1)))) = true:=beq_iff_eq.mpr c6;have c6b1 : (((rd_T31 l0 x5_1).f1) != (IntKind.i8.wrap (wrap64 (x1_1 + 1)))) = false:=bne_eq_false_iff_eq.mpr c6;clear c6
       by_cases c7 : ((rd_T31 l0 x5_1).f2) = (IntKind.i8.wrap (wrap64 ((wrap64 (x1_1 + 1)) + 1)))
       ·
        rw [if_pos c7] at H;have c7b0 : (((rd_T31 l0 x5_1).f2) == (IntKind.i8.wrap (wrap64 ((wrap64 (x1_1 + 1)) + 1)))) = true:=beq_iff_eq.mpr c7;have c7b1 : (((rd_T31 l0 x5_1).f2) != (IntKind.i8.wrap (wrap64 ((wrap64 (x1_1 + 1)) + 1)))) = false:=bne_eq_false_iff_eq.mpr c7;clear c7
        by_cases c8 : ((rd_T31 l0 x5_1).f3) = (IntKind.i8.wrap (wrap64 ((wrap64 ((wrap64 (x1_1 + 1)) + 1)) + 1)))
        ·
         rw [if_pos c8] at H;have c8b0 : (((rd_T31 l0 x5_1).f3) == (IntKind.i8.wrap (wrap64 ((wrap64 ((wrap64 (x1_1 + 1)) + 1)) + 1)))) = true:=beq_iff_eq.mpr c8;have c8b1 : (((rd_T31 l0 x5_1).f3) != (IntKind.i8.wrap (wrap64 ((wrap64 ((wrap64 (x1_1 + 1)) + 1)) + 1)))) = false:=bne_eq_false_iff_eq.mpr c8;clear c8;have H':=am_ H;clear H;have p299 : 0≤(x5_1 : Int):=od_ (by first|(with_reducible assumption)|assumption);have q299 : x5_1 < (l0.length : Int):=od_ (by first|(with_reducible assumption)|assumption);obtain ⟨ad299,e299,hx299_0,hx299_1,hx299_2,hx299_3⟩:=at_T31 HR0.out x5_1 p299 q299
         cases e299
         replace p299:=eq_true p299;replace q299:=eq_true q299;have p300 : 0≤(x5_1 : Int):=od_ (by first|(with_reducible assumption)|assumption);have q300 : x5_1 < (l0.length : Int):=od_ (by first|(with_reducible assumption)|assumption);obtain ⟨ad300,e300,hx300_0,hx300_1,hx300_2,hx300_3⟩:=at_T31 HR0.out x5_1 p300 q300;obtain rfl : ad299 = ad300:=(by injection e300)
         replace p300:=eq_true p300;replace q300:=eq_true q300;have p301 : 0≤(x5_1 : Int):=od_ (by first|(with_reducible assumption)|assumption);have q301 : x5_1 < (l0.length : Int):=od_ (by first|(with_reducible assumption)|assumption);obtain ⟨ad301,e301,hx301_0,hx301_1,hx301_2,hx301_3⟩:=at_T31 HR0.out x5_1 p301 q301;obtain rfl : ad299 = ad301:=(by injection e301)
         replace p301:=eq_true p301;replace q301:=eq_true q301;have p302 : 0≤(x5_1 : Int):=od_ (by first|(with_reducible assumption)|assumption);have q302 : x5_1 < (l0.length : Int):=od_ (by first|(with_reducible assumption)|assumption);obtain ⟨ad302,e302,hx302_0,hx302_1,hx302_2,hx302_3⟩:=at_T31 HR0.out x5_1 p302 q302;obtain rfl : ad299 = ad302:=(by injection e302)
         replace p302:=eq_true p302;replace q302:=eq_true q302
         go_wp2
         go_roundg k1
         case measure=>have:=HK1.out;omega
         case rel=>exact ⟨(wrap64 ((wrap64 ((wrap64 ((wrap64 (x1_1 + 1)) + 1)) + 1)) + 1)),(wrap64 (x5_1 + 1)),(by first|rfl|(simp;done)|(simp [*];done)),(by first|rfl|(simp;done)|(simp [*];done)),H',⟨by have:=HK1.out;omega⟩,by repeat (first|exact Drawn0.refl _|apply Drawn0.step)⟩
        ·
         rw [if_neg c8] at H;have c8b0 : (((rd_T31 l0 x5_1).f3) == (IntKind.i8.wrap (wrap64 ((wrap64 ((wrap64 (x1_1 + 1)) + 1)) + 1)))) = false:=beq_eq_false_iff_ne.mpr c8;have c8b1 : (((rd_T31 l0 x5_1).f3) != (IntKind.i8.wrap (wrap64 ((wrap64 ((wrap64 (x1_1 + 1)) + 1)) + 1)))) = true:=bne_iff_ne.mpr c8;obtain rfl:=Option.some.inj H;have p299 : 0≤(x5_1 : Int):=od_ (by first|(with_reducible assumption)|assumption);have q299 : x5_1 < (l0.length : Int):=od_ (by first|(with_reducible assumption)|assumption);obtain ⟨ad299,e299,hx299_0,hx299_1,hx299_2,hx299_3⟩:=at_T31 HR0.out x5_1 p299 q299
         cases e299
         replace p299:=eq_true p299;replace q299:=eq_true q299;have p300 : 0≤(x5_1 : Int):=od_ (by first|(with_reducible assumption)|assumption);have q300 : x5_1 < (l0.length : Int):=od_ (by first|(with_reducible assumption)|assumption);obtain ⟨ad300,e300,hx300_0,hx300_1,hx300_2,hx300_3⟩:=at_T31 HR0.out x5_1 p300 q300;obtain rfl : ad299 = ad300:=(by injection e300)
         replace p300:=eq_true p300;replace q300:=eq_true q300;have p301 : 0≤(x5_1 : Int):=od_ (by first|(with_reducible assumption)|assumption);have q301 : x5_1 < (l0.length : Int):=od_ (by first|(with_reducible assumption)|assumption);obtain ⟨ad301,e301,hx301_0,hx301_1,hx301_2,hx301_3⟩:=at_T31 HR0.out x5_1 p301 q301;obtain rfl : ad299 = ad301:=(by injection e301)
         replace p301:=eq_true p301;replace q301:=eq_true q301;have p302 : 0≤(x5_1 : Int):=od_ (by first|(with_reducible assumption)|assumption);have q302 : x5_1 < (l0.length : Int):=od_ (by first|(with_reducible assumption)|assumption);obtain ⟨ad302,e302,hx302_0,hx302_1,hx302_2,hx302_3⟩:=at_T31 HR0.out x5_1 p302 q302;obtain rfl : ad299 = ad302:=(by injection e302)
         replace p302:=eq_true p302;replace q302:=eq_true q302
         go_wp2
         go_ret
         exact ⟨by first|rfl|(simp;done)|(simp [*];done),by repeat (first|exact Drawn0.refl _|apply Drawn0.step)⟩
       ·
        rw [if_neg c7] at H;have c7b0 : (((rd_T31 l0 x5_1).f2) == (IntKind.i8.wrap (wrap64 ((wrap64 (x1_1 + 1)) + 1)))) = false:=beq_eq_false_iff_ne.mpr c7;have c7b1 : (((rd_T31 l0 x5_1).f2) != (IntKind.i8.wrap (wrap64 ((wrap64 (x1_1 + 1)) + 1)))) = true:=bne_iff_ne.mpr c7;obtain rfl:=Option.some.inj H;have p299 : 0≤(x5_1 : Int):=od_ (by first|(with_reducible assumption)|assumption);have q299 : x5_1 < (l0.length : Int):=od_ (by first|(with_reducible assumption)|assumption);obtain ⟨ad299,e299,hx299_0,hx299_1,hx299_2,hx299_3⟩:=at_T31 HR0.out x5_1 p299 q299
        cases e299
        replace p299:=eq_true p299;replace q299:=eq_true q299;have p300 : 0≤(x5_1 : Int):=od_ (by first|(with_reducible assumption)|assumption);have q300 : x5_1 < (l0.length : Int):=od_ (by first|(with_reducible assumption)|assumption);obtain ⟨ad300,e300,hx300_0,hx300_1,hx300_2,hx300_3⟩:=at_T31 HR0.out x5_1 p300 q300;obtain rfl : ad299 = ad300:=(by injection e300)
        replace p300:=eq_true p300;replace q300:=eq_true q300;have p301 : 0≤(x5_1 : Int):=od_ (by first|(with_reducible assumption)|assumption);have q301 : x5_1 < (l0.length : Int):=od_ (by first|(with_reducible assumption)|assumption);obtain ⟨ad301,e301,hx301_0,hx301_1,hx301_2,hx301_3⟩:=at_T31 HR0.out x5_1 p301 q301;obtain rfl : ad299 = ad301:=(by injection e301)
        replace p301:=eq_true p301;replace q301:=eq_true q301
        go_wp2
        go_ret
        exact ⟨by first|rfl|(simp;done)|(simp [*];done),by repeat (first|exact Drawn0.refl _|apply Drawn0.step)⟩
      ·
       rw [if_neg c6] at H;have c6b0 : (((rd_T31 l0 x5_1).f1) == (IntKind.i8.wrap (wrap64 (x1_1 + 1)))) = false:=beq_eq_false_iff_ne.mpr c6;have c6b1 : (((rd_T31 l0 x5_1).f1) != (IntKind.i8.wrap (wrap64 (x1_1 + 1)))) = true:=bne_iff_ne.mpr c6;obtain rfl:=Option.some.inj H;have p299 : 0≤(x5_1 : Int):=od_ (by first|(with_reducible assumption)|assumption);have q299 : x5_1 < (l0.length : Int):=od_ (by first|(with_reducible assumption)|assumption);obtain ⟨ad299,e299,hx299_0,hx299_1,hx299_2,hx299_3⟩:=at_T31 HR0.out x5_1 p299 q299
       cases e299
       replace p299:=eq_true p299;replace q299:=eq_true q299;have p300 : 0≤(x5_1 : Int):=od_ (by first|(with_reducible assumption)|assumption);have q300 : x5_1 < (l0.length : Int):=od_ (by first|(with_reducible assumption)|assumption);obtain ⟨ad300,e300,hx300_0,hx300_1,hx300_2,hx300_3⟩:=at_T31 HR0.out x5_1 p300 q300;obtain rfl : ad299 = ad300:=(by injection e300)
       replace p300:=eq_true p300;replace q300:=eq_true q300
       go_wp2
       go_ret
       exact ⟨by first|rfl|(simp;done)|(simp [*];done),by repeat (first|exact Drawn0.refl _|apply Drawn0.step)⟩
     ·
      rw [if_neg c5] at H;have c5b0 : (((rd_T31 l0 x5_1).f0) == (IntKind.i8.wrap (x1_1))) = false:=beq_eq_false_iff_ne.mpr c5;have c5b1 : (((rd_T31 l0 x5_1).f0) != (IntKind.i8.wrap (x1_1))) = true:=bne_iff_ne.mpr c5;obtain rfl:=Option.some.inj H;have p299 : 0≤(x5_1 : Int):=od_ (by first|(with_reducible assumption)|assumption);have q299 : x5_1 < (l0.length : Int):=od_ (by first|(with_reducible assumption)|assumption);obtain ⟨ad299,e299,hx299_0,hx299_1,hx299_2,hx299_3⟩:=at_T31 HR0.out x5_1 p299 q299
      cases e299
      replace p299:=eq_true p299;replace q299:=eq_true q299
      go_wp2
      go_ret
      exact ⟨by first|rfl|(simp;done)|(simp [*];done),by repeat (first|exact Drawn0.refl _|apply Drawn0.step)⟩
    · rw [if_neg c4] at H;exact absurd H (by simp)
   ·
    rw [if_neg c3] at H;have c3b0 : decide (x5_1 < (l0.length : Int)) = false:=decide_eq_false c3;clear c3;obtain rfl:=Option.some.inj H
    go_wp2
    go_ret
    exact ⟨by first|rfl|(simp;done)|(simp [*];done),by repeat (first|exact Drawn0.refl _|apply Drawn0.step)⟩
end Go.Proofs.Ytgpfjmkmopjfbaa.Q
