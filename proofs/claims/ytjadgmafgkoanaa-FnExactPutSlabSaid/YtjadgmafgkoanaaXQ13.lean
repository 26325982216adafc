-- By a program of this session's: of the print's words what this claim needs. Lean checks it.
import Derived.Test.YtjadgmafgkoanaaXQ0
import Derived.Test.YtjadgmafgkoanaaXQ12
import Derived.Test.YtjadgmafgkoanaaXQ9
namespace Go.Proofs.Ytjadgmafgkoanaa.Q
open Go.RowKit Go.Proofs.YtjadgmafgkoanaaW.PrintWords Go.Proofs.YtjadgmafgkoanaaW.PrintLast Go.Proofs.YtjadgmafgkoanaaW.PrintMore
attribute [local go_sem] max2_int min2_int max_two min_two max_three min_three max_four min_four
set_option linter.unusedVariables false
set_option linter.unusedSimpArgs false
def impl_Square_put.f (a0_0 : Int) (a0_1 : Int) (l0_2 : List (S49)) (a1_0 : Int) (a1_1 : Int) (a1_2 : Int) (a1_3 : Int) : Option (Int × Int × (List (S49))) := (impl_Slab_66.f l0_2).bind fun t301 => ((some (([(⟨a1_0, a1_1, a1_2, a1_3⟩ : S49)] : List (S49)) : List (S49))).bind fun y304 => (if t301.length + y304.length < 35184372088832 then ((impl_Square_with.f a0_0 a0_1 l0_2 (t301 ++ y304)).bind fun bt310 => (some (bt310.1, bt310.2.1, bt310.2.2))) else (none)))
def impl_Square_put.T1 : Bool × List (List Nat × List Nat) := (true, [([], []), ([], []), ([1], [1]), ([2], [2]), ([], []), ([4], [4]), ([3, 5, 3], [3, 5]), ([0, 6, 6], [0, 6]), ([7, 7, 0, 1, 2, 3, 4, 5, 6, 7], [7])])
def impl_Square_put.B1 : List Nat := [0, 0, 2, 6, 0, 16, 62, 127, 255]
theorem impl_Square_put.tab1 : rtab .any (opsOf Try.f52 1) = impl_Square_put.T1 := by kernel_rfl
theorem impl_Square_put.bits1 : waitsOk impl_Square_put.T1.2 impl_Square_put.B1 = true := by kernel_rfl
set_option maxHeartbeats 8000000 in
set_option maxRecDepth 100000 in
theorem impl_Square_put.calls (a0_0 : Int) (a0_1 : Int) (A0_2 : Option Addr) (c0_2 : Nat) (l0_2 : List (S49)) (a1_0 : Int) (a1_1 : Int) (a1_2 : Int) (a1_3 : Int) (r1 : Int) (r2 : Int) (r3 : List (S49)) (w : World) (hr0_2 : Kd.C k49 w A0_2 l0_2.length l0_2) (hc0_2 : l0_2.length ≤ c0_2) (h : impl_Square_put.f a0_0 a0_1 l0_2 a1_0 a1_1 a1_2 a1_3 = some (r1, r2, r3)) :
  Calls Try.prog 52 #[.agg #[.int .i8 a0_0,.int .i8 a0_1,.slice A0_2 l0_2.length c0_2],.agg #[.int .i8 a1_0,.int .i8 a1_1,.int .i8 a1_2,.int .i8 a1_3]] w fun e w'=>∃ v2_ : Value,e = .returned (.agg #[.int .i8 r1,.int .i8 r2,v2_]) ∧ Kd.R k49 49 w' w.heap.size (fun _=>True) v2_ r3 ∧ Below w.heap.size w w':=by
 have hu29:=Try.underlying29;have hu49:=Try.underlying49;have HR0_2:=am_ hr0_2;have HC0_2:=am_ hc0_2;clear hr0_2 hc0_2;have HB:=am_ (Below.refl w.heap.size w);have H : ((impl_Slab_66.f l0_2).bind fun t301=>((some (([(⟨a1_0,a1_1,a1_2,a1_3⟩ : S49)] : List (S49)) : List (S49))).bind fun y304=>(if t301.length + y304.length < 35184372088832 then ((impl_Square_with.f a0_0 a0_1 l0_2 (t301 ++ y304)).bind fun bt310=>(some (bt310.1,bt310.2.1,bt310.2.2))) else (none)))) = some (r1,r2,r3):=h;clear h;replace H:=Option.bind_eq_some_iff.mp H;obtain ⟨t301,A30,H⟩:=H;replace H : ((some (([(⟨a1_0,a1_1,a1_2,a1_3⟩ : S49)] : List (S49)) : List (S49))).bind fun y304=>(if t301.length + y304.length < 35184372088832 then ((impl_Square_with.f a0_0 a0_1 l0_2 (t301 ++ y304)).bind fun bt310=>(some (bt310.1,bt310.2.1,bt310.2.2))) else (none))) = some (r1,r2,r3):=H;have A3:=am_ A30;clear A30;obtain ⟨y304,hy304⟩ : ∃ y_ : List (S49),y_ = (([(⟨a1_0,a1_1,a1_2,a1_3⟩ : S49)] : List (S49))):=⟨_,rfl⟩
 replace H : (if t301.length + y304.length < 35184372088832 then ((impl_Square_with.f a0_0 a0_1 l0_2 (t301 ++ y304)).bind fun bt310=>(some (bt310.1,bt310.2.1,bt310.2.2))) else (none)) = some (r1,r2,r3):=by first|(rw [hy304];with_reducible exact H)|(have H2_:=(Option.bind_some _ _).symm.trans H;rw [hy304];with_reducible exact H2_)|(have H2_:=(Option.bind_some _ _).symm.trans H;with_reducible exact H2_)|with_reducible exact H|(rw [hy304];exact H)|exact H
 have Ny304:=am_ hy304;clear hy304
 by_cases c4 : t301.length + y304.length < 35184372088832
 ·
  rw [if_pos c4] at H;have LMc4:=am_ c4;clear c4;obtain ⟨y307,hy307⟩ : ∃ y_ : List (S49),y_ = (t301 ++ y304):=⟨_,rfl⟩
  replace H : ((impl_Square_with.f a0_0 a0_1 l0_2 y307).bind fun bt310=>(some (bt310.1,bt310.2.1,bt310.2.2))) = some (r1,r2,r3):=by first|(rw [hy307];with_reducible exact H)|(have H2_:=(Option.bind_some _ _).symm.trans H;rw [hy307];with_reducible exact H2_)|(have H2_:=(Option.bind_some _ _).symm.trans H;with_reducible exact H2_)|with_reducible exact H|(rw [hy307];exact H)|exact H
  have Ny307:=am_ hy307;clear hy307;replace H:=Option.bind_eq_some_iff.mp H;obtain ⟨⟨t310,t311,t312⟩,A50,H⟩:=H;replace H : (some (t310,t311,t312)) = some (r1,r2,r3):=H;have A5:=am_ A50;clear A50;simp only [Option.some.injEq,Prod.mk.injEq] at H;obtain ⟨rfl,rfl,rfl⟩:=H
  go_enter Try.func52,Try.ntmps52
  try go_wp2_with (first|((with_reducible refine gate_dst (N:=2) rfl ?_);refine box_event ?hg (N:=2) ?hd (cs:=#[.int .i8 a0_0,.int .i8 a0_1,.slice A0_2 l0_2.length c0_2]) (t:=29) ?hr ?_;(case hd=>rfl);(case hg=>rfl);(case hr=>first|(go_simp;done)|(go_simp;rfl));intro gb298 hg w6 hbox hb;have n0_:=am_ (bT_ HB.out hb);have n1_:=am_ (hbox);have n2_:=am_ ((by rw [hg];exact (bZ_ HB.out) : w.heap.size≤gb298));have n3_:=n2_;clear HB;have HB:=n0_;have BK298:=n1_;have GW298:=n2_;have GE298:=n3_;clear n0_ n1_ n2_ n3_;clear hb hbox hg)|((with_reducible refine gate_dst (N:=3) rfl ?_);refine box_event ?hg (N:=3) ?hd (cs:=#[.int .i8 a1_0,.int .i8 a1_1,.int .i8 a1_2,.int .i8 a1_3]) (t:=49) ?hr ?_;(case hd=>rfl);(case hg=>rfl);(case hr=>first|(go_simp;done)|(go_simp;rfl));intro gb299 hg w7 hbox hb;have n0_:=am_ (kB_ BK298.out hb);have n1_:=am_ (bT_ HB.out hb);have n2_:=am_ (hbox);have n3_:=am_ ((by rw [hg];exact (bZ_ HB.out) : w.heap.size≤gb299));have n4_:=n3_;have n5_:=am_ ((by rw [hg];exact nL_ (kL_ BK298.out) : gb298 ≠ gb299));have n6_:=am_ ((by rw [hg];exact nG_ (kL_ BK298.out) : gb299 ≠ gb298));clear BK298;clear HB;have BK298:=n0_;have HB:=n1_;have BK299:=n2_;have GW299:=n3_;have GE299:=n4_;have NB298_299:=n5_;have NB299_298:=n6_;clear n0_ n1_ n2_ n3_ n4_ n5_ n6_;clear hb hbox hg)|((with_reducible refine gate_dst (N:=4) rfl ?_);refine box_event ?hg (N:=4) ?hd (cs:=#[.int .i8 0,.int .i8 0,.slice none 0 0]) (t:=29) ?hr ?_;(case hd=>rfl);(case hg=>rfl);(case hr=>first|(go_simp;done)|(go_simp;rfl));intro gb300 hg w8 hbox hb;have n0_:=am_ (kB_ BK298.out hb);have n1_:=am_ (kB_ BK299.out hb);have n2_:=am_ (bT_ HB.out hb);have n3_:=am_ (hbox);have n4_:=am_ ((by rw [hg];exact (bZ_ HB.out) : w.heap.size≤gb300));have n5_:=n4_;have n6_:=am_ ((by rw [hg];exact nL_ (kL_ BK298.out) : gb298 ≠ gb300));have n7_:=am_ ((by rw [hg];exact nG_ (kL_ BK298.out) : gb300 ≠ gb298));have n8_:=am_ ((by rw [hg];exact nL_ (kL_ BK299.out) : gb299 ≠ gb300));have n9_:=am_ ((by rw [hg];exact nG_ (kL_ BK299.out) : gb300 ≠ gb299));clear BK298;clear BK299;clear HB;have BK298:=n0_;have BK299:=n1_;have HB:=n2_;have BK300:=n3_;have GW300:=n4_;have GE300:=n5_;have NB298_300:=n6_;have NB300_298:=n7_;have NB299_300:=n8_;have NB300_299:=n9_;clear n0_ n1_ n2_ n3_ n4_ n5_ n6_ n7_ n8_ n9_;clear hb hbox hg))
  have n0_:=am_ (kD_ BK298.out);have n1_:=am_ (kD_ BK299.out);have n2_:=am_ (kD_ BK300.out);have n3_:=am_ (bD_ HB.out);clear BK298;clear BK299;clear BK300;clear HB;have BK298:=n0_;have BK299:=n1_;have BK300:=n2_;have HB:=n3_;clear n0_ n1_ n2_ n3_;refine start_ (n:=9) (S:=fun w'=>w'.cell? ⟨gb298,0,none⟩ = some (.int .i8 a0_0) ∧ w'.cell? ⟨gb298,1,none⟩ = some (.int .i8 a0_1) ∧ w'.cell? ⟨gb298,2,none⟩ = some (.slice A0_2 l0_2.length c0_2) ∧ w'.cell? ⟨gb299,0,none⟩ = some (.int .i8 a1_0) ∧ w'.cell? ⟨gb299,1,none⟩ = some (.int .i8 a1_1) ∧ w'.cell? ⟨gb299,2,none⟩ = some (.int .i8 a1_2) ∧ w'.cell? ⟨gb299,3,none⟩ = some (.int .i8 a1_3)) (ds:=[]) (mB_ 9 0) (by kernel_rfl) rfl rfl ⟨(kC_ BK298.out 0).trans rfl,(kC_ BK298.out 1).trans rfl,(kC_ BK298.out 2).trans rfl,(kC_ BK299.out 0).trans rfl,(kC_ BK299.out 1).trans rfl,(kC_ BK299.out 2).trans rfl,(kC_ BK299.out 3).trans rfl⟩ (fun hHeld=>?_);refine with_tabW impl_Square_put.tab1 impl_Square_put.bits1 (fun HT_ HW_=>?_);generalize w8.drew = w9 at BK298 BK299 BK300 HB hHeld ⊢;refine pure_ (i:=1) (N:=some 6) (v:=?_) (a':=?_) (mB_ 9 2) rfl rfl (any_of HT_.out (by kernel_rfl)) (fun _ _ _ h=>h) (Or.inl ⟨by rfl,?_⟩) ?_ ?_;rotate_left
  ·
   intro w'
   go_simp
   with_reducible rfl
  rotate_left
  ·
   simp only [Act.put,z1_,z2_,z3_,i64_w,i32_w]
   rfl
  refine take_ (i:=0) (N:=some 5) (v:=?_) (a':=?_) (mB_ 9 3) rfl rfl (take_ofW HT_.out HW_.out (by kernel_rfl)) (fun _ _ _ h=>h) (Or.inl ⟨by rfl,?_⟩) hHeld ?_ ?_;rotate_left
  ·
   rintro w' ⟨s0,s1,s2,s3,s4,s5,s6⟩
   go_simp
   with_reducible rfl
  rotate_left
  ·
   simp only [Act.put,z1_,z2_,z3_,i64_w,i32_w]
   rfl
  refine take_ (i:=2) (N:=some 7) (v:=?_) (a':=?_) (mB_ 9 7) rfl rfl (take_ofW HT_.out HW_.out (by kernel_rfl)) (fun _ _ _ h=>h) (Or.inl ⟨by rfl,?_⟩) hHeld ?_ ?_;rotate_left
  ·
   rintro w' ⟨s0,s1,s2,s3,s4,s5,s6⟩
   go_simp
   with_reducible rfl
  rotate_left
  ·
   simp only [Act.put,z1_,z2_,z3_,i64_w,i32_w]
   rfl
  refine take_ (i:=4) (N:=some 9) (v:=?_) (a':=?_) (mB_ 9 23) rfl rfl (take_ofW HT_.out HW_.out (by kernel_rfl)) (fun _ _ _ h=>h) (Or.inl ⟨by rfl,?_⟩) hHeld ?_ ?_;rotate_left
  ·
   rintro w' ⟨s0,s1,s2,s3,s4,s5,s6⟩
   go_simp
   with_reducible rfl
  rotate_left
  ·
   simp only [Act.put,z1_,z2_,z3_,i64_w,i32_w]
   rfl
  refine join_ (σ:=Value × Value) 3 (mB_ 9 63) (fun s_=>[(8,s_.1),(10,s_.2)]) (fun s_ w'=>(w'.cell? ⟨gb298,0,none⟩ = some (.int .i8 a0_0) ∧ w'.cell? ⟨gb298,1,none⟩ = some (.int .i8 a0_1) ∧ w'.cell? ⟨gb298,2,none⟩ = some (.slice A0_2 l0_2.length c0_2) ∧ w'.cell? ⟨gb299,0,none⟩ = some (.int .i8 a1_0) ∧ w'.cell? ⟨gb299,1,none⟩ = some (.int .i8 a1_1) ∧ w'.cell? ⟨gb299,2,none⟩ = some (.int .i8 a1_2) ∧ w'.cell? ⟨gb299,3,none⟩ = some (.int .i8 a1_3)) ∧ (Kd.R k49 49 w' w.heap.size (fun k_=>some k_ ≠ (s_.2 : Value).ownBlock ∧ k_ ≠ gb299) s_.1 t301) ∧ (Kd.R k49 49 w' w.heap.size (fun k_=>some k_ ≠ (s_.1 : Value).ownBlock ∧ k_ ≠ gb299) s_.2 y304) ∧ (w'.heap[gb298]? = some (.cells #[.int .i8 a0_0,.int .i8 a0_1,.slice A0_2 l0_2.length c0_2] 29 (0,0))) ∧ (w'.heap[gb299]? = some (.cells #[.int .i8 a1_0,.int .i8 a1_1,.int .i8 a1_2,.int .i8 a1_3] 49 (0,0))) ∧ (w'.heap[gb300]? = some (.cells #[.int .i8 0,.int .i8 0,.slice none 0 0] 29 (0,0))) ∧ (Below w.heap.size w w')) ?_ ?_;rotate_left
  ·
   intro hCont;refine two_ (i:=3) (j:=5) (Ni:=some 8) (Nj:=some 10) (mB_ 9 31) (mB_ 9 55) rfl rfl rfl rfl (two_of HT_.out (by kernel_rfl)) (by decide) (by decide) (fun K hK=>?_) (fun K hK=>?_)
   ·
    skip
    refine goes_ Try.func66 (by kernel_rfl) rfl #[.slice A0_2 l0_2.length c0_2] (by rfl) rfl rfl (by (try simp only [List.map_toArray,List.map_cons,List.map_nil]);first|done|rfl|(simp only [List.length_drop,List.length_take];rfl)) ?_
    with_reducible refine (impl_Slab_66.calls _ _ l0_2 t301 _ ?side1 ?side2 A3.out).mono ?_
    (case side1=>repeat (first|exact (cB_ HR0_2.out HB.out)|(with_reducible refine Kd.C_alloc ?_ _)|(with_reducible refine Kd.C_drewN ?_ _)|(with_reducible refine Kd.C_drew ?_)))
    (case side2=>exact HC0_2.out)
    rintro e w10 ⟨v302,rfl,ho0,hb⟩;refine ⟨_,rfl,?_⟩;have n0_:=am_ (Kd.R_lower (Kd.R_newB ho0 (g:=gb299) (o:=.cells #[.int .i8 a1_0,.int .i8 a1_1,.int .i8 a1_2,.int .i8 a1_3] 49 (0,0)) BK299.out) (bZ_ HB.out));have n1_:=am_ (kB_ BK298.out hb);have n2_:=am_ (kB_ BK299.out hb);have n3_:=am_ (kB_ BK300.out hb);have n4_:=am_ (bT_ HB.out hb);clear BK298;clear BK299;clear BK300;clear HB;have HO303:=n0_;have BK298:=n1_;have BK299:=n2_;have BK300:=n3_;have HB:=n4_;clear n0_ n1_ n2_ n3_ n4_;(try clear hb);(try clear hb2);(try clear hk);(try clear hi);(try clear ho0);refine hK.out _ _ ⟨(kC_ BK298.out 0).trans rfl,(kC_ BK298.out 1).trans rfl,(kC_ BK298.out 2).trans rfl,(kC_ BK299.out 0).trans rfl,(kC_ BK299.out 1).trans rfl,(kC_ BK299.out 2).trans rfl,(kC_ BK299.out 3).trans rfl⟩ (fun hHeld=>?_);clear hK K;refine norm_ (a':=?_) ?_ ?_;rotate_left
    ·
     show Act.put _ (some 8) _ = _
     simp only [Act.put,z1_,z2_,z3_,i64_w,i32_w]
     rfl
    refine one_ (i:=5) (N:=some 10) (mB_ 9 63) rfl rfl (one_of HT_.out (by kernel_rfl)) (by decide) (fun K hK=>?_);refine Kd.R_lit_step k49 _ 49 ?hg (N:=10) ?hd (xs:=([(⟨a1_0,a1_1,a1_2,a1_3⟩ : S49)] : List (S49))) (inner:=[.int .i8 a1_0,.int .i8 a1_1,.int .i8 a1_2,.int .i8 a1_3]) (ok:=fun _=>True) (okp:=fun _=>True) ?hr ?hp (fun _ hk=>hk) trivial (Below.refl _ _) (Nat.le_refl _) (by simp) ?_;(case hd=>rfl);(case hg=>rfl);(case hr=>first|(go_simp;done)|(go_simp;rfl));(case hp=>exact (Reps.c4 (show Kd.M k49 _ _ _ (⟨a1_0,a1_1,a1_2,a1_3⟩ : S49) [.int .i8 a1_0,.int .i8 a1_1,.int .i8 a1_2,.int .i8 a1_3] from (k49_mkM _ _ _ (⟨a1_0,a1_1,a1_2,a1_3⟩ : S49) )) (Reps.none _ _)));intro v305 w11 ho12 hb hg_ hnew_;clear hg_ hnew_
    (first|rw [← Ny304.out] at ho12|(simp only [Int.reduceToNat] at ho12;rw [← Ny304.out] at ho12))
    have n0_:=am_ (Kd.R_elder' HO303.out (Kd.R_base ho12) hb);have n1_:=am_ (Kd.R_lower (Kd.R_newB (Kd.R_new' ho12 (Kd.R_lt HO303.out)) (g:=gb299) (o:=.cells #[.int .i8 a1_0,.int .i8 a1_1,.int .i8 a1_2,.int .i8 a1_3] 49 (0,0)) BK299.out) (bZ_ HB.out));have n2_:=am_ (kB_ BK298.out hb);have n3_:=am_ (kB_ BK299.out hb);have n4_:=am_ (kB_ BK300.out hb);have n5_:=am_ (bT_ HB.out hb);clear HO303;clear BK298;clear BK299;clear BK300;clear HB;have HO303:=n0_;have HO306:=n1_;have BK298:=n2_;have BK299:=n3_;have BK300:=n4_;have HB:=n5_;clear n0_ n1_ n2_ n3_ n4_ n5_;clear hb ho12;refine hK.out _ _ ⟨(kC_ BK298.out 0).trans rfl,(kC_ BK298.out 1).trans rfl,(kC_ BK298.out 2).trans rfl,(kC_ BK299.out 0).trans rfl,(kC_ BK299.out 1).trans rfl,(kC_ BK299.out 2).trans rfl,(kC_ BK299.out 3).trans rfl⟩ (fun hHeld=>?_);clear hK K;refine norm_ (a':=?_) ?_ ?_;rotate_left
    ·
     show Act.put _ (some 10) _ = _
     simp only [Act.put,z1_,z2_,z3_,i64_w,i32_w]
     rfl
    exact norm_ (by simp only [putAll,Act.put,z1_,z2_,z3_]) (hCont (v302,v305) _ ⟨hHeld,(rM_ HO303.out (fun _ hk=>⟨hk.2,hk.1.2⟩)),(rM_ HO306.out (fun _ hk=>⟨hk.1.2,hk.2⟩)),BK298.out,BK299.out,BK300.out,HB.out⟩)
   ·
    skip
    refine Kd.R_lit_step k49 _ 49 ?hg (N:=10) ?hd (xs:=([(⟨a1_0,a1_1,a1_2,a1_3⟩ : S49)] : List (S49))) (inner:=[.int .i8 a1_0,.int .i8 a1_1,.int .i8 a1_2,.int .i8 a1_3]) (ok:=fun _=>True) (okp:=fun _=>True) ?hr ?hp (fun _ hk=>hk) trivial (Below.refl _ _) (Nat.le_refl _) (by simp) ?_;(case hd=>rfl);(case hg=>rfl);(case hr=>first|(go_simp;done)|(go_simp;rfl));(case hp=>exact (Reps.c4 (show Kd.M k49 _ _ _ (⟨a1_0,a1_1,a1_2,a1_3⟩ : S49) [.int .i8 a1_0,.int .i8 a1_1,.int .i8 a1_2,.int .i8 a1_3] from (k49_mkM _ _ _ (⟨a1_0,a1_1,a1_2,a1_3⟩ : S49) )) (Reps.none _ _)));intro v305 w10 ho11 hb hg_ hnew_;clear hg_ hnew_
    (first|rw [← Ny304.out] at ho11|(simp only [Int.reduceToNat] at ho11;rw [← Ny304.out] at ho11))
    have n0_:=am_ (Kd.R_lower (Kd.R_newB ho11 (g:=gb299) (o:=.cells #[.int .i8 a1_0,.int .i8 a1_1,.int .i8 a1_2,.int .i8 a1_3] 49 (0,0)) BK299.out) (bZ_ HB.out));have n1_:=am_ (kB_ BK298.out hb);have n2_:=am_ (kB_ BK299.out hb);have n3_:=am_ (kB_ BK300.out hb);have n4_:=am_ (bT_ HB.out hb);clear BK298;clear BK299;clear BK300;clear HB;have HO306:=n0_;have BK298:=n1_;have BK299:=n2_;have BK300:=n3_;have HB:=n4_;clear n0_ n1_ n2_ n3_ n4_;clear hb ho11;refine hK.out _ _ ⟨(kC_ BK298.out 0).trans rfl,(kC_ BK298.out 1).trans rfl,(kC_ BK298.out 2).trans rfl,(kC_ BK299.out 0).trans rfl,(kC_ BK299.out 1).trans rfl,(kC_ BK299.out 2).trans rfl,(kC_ BK299.out 3).trans rfl⟩ (fun hHeld=>?_);clear hK K;refine norm_ (a':=?_) ?_ ?_;rotate_left
    ·
     show Act.put _ (some 10) _ = _
     simp only [Act.put,z1_,z2_,z3_,i64_w,i32_w]
     rfl
    refine one_ (i:=3) (N:=some 8) (mB_ 9 63) rfl rfl (one_of HT_.out (by kernel_rfl)) (by decide) (fun K hK=>?_);refine goes_ Try.func66 (by kernel_rfl) rfl #[.slice A0_2 l0_2.length c0_2] (by rfl) rfl rfl (by (try simp only [List.map_toArray,List.map_cons,List.map_nil]);first|done|rfl|(simp only [List.length_drop,List.length_take];rfl)) ?_
    with_reducible refine (impl_Slab_66.calls _ _ l0_2 t301 _ ?side1 ?side2 A3.out).mono ?_
    (case side1=>repeat (first|exact (cB_ HR0_2.out HB.out)|(with_reducible refine Kd.C_alloc ?_ _)|(with_reducible refine Kd.C_drewN ?_ _)|(with_reducible refine Kd.C_drew ?_)))
    (case side2=>exact HC0_2.out)
    rintro e w12 ⟨v302,rfl,ho0,hb⟩;refine ⟨_,rfl,?_⟩;have n0_:=am_ (Kd.R_elder' HO306.out (Kd.R_base ho0) hb);have n1_:=am_ (Kd.R_lower (Kd.R_newB (Kd.R_new' ho0 (Kd.R_lt HO306.out)) (g:=gb299) (o:=.cells #[.int .i8 a1_0,.int .i8 a1_1,.int .i8 a1_2,.int .i8 a1_3] 49 (0,0)) BK299.out) (bZ_ HB.out));have n2_:=am_ (kB_ BK298.out hb);have n3_:=am_ (kB_ BK299.out hb);have n4_:=am_ (kB_ BK300.out hb);have n5_:=am_ (bT_ HB.out hb);clear HO306;clear BK298;clear BK299;clear BK300;clear HB;have HO306:=n0_;have HO303:=n1_;have BK298:=n2_;have BK299:=n3_;have BK300:=n4_;have HB:=n5_;clear n0_ n1_ n2_ n3_ n4_ n5_;(try clear hb);(try clear hb2);(try clear hk);(try clear hi);(try clear ho0);refine hK.out _ _ ⟨(kC_ BK298.out 0).trans rfl,(kC_ BK298.out 1).trans rfl,(kC_ BK298.out 2).trans rfl,(kC_ BK299.out 0).trans rfl,(kC_ BK299.out 1).trans rfl,(kC_ BK299.out 2).trans rfl,(kC_ BK299.out 3).trans rfl⟩ (fun hHeld=>?_);clear hK K;refine norm_ (a':=?_) ?_ ?_;rotate_left
    ·
     show Act.put _ (some 8) _ = _
     simp only [Act.put,z1_,z2_,z3_,i64_w,i32_w]
     rfl
    exact norm_ (by simp only [putAll,Act.put,z1_,z2_,z3_]) (hCont (v302,v305) _ ⟨hHeld,(rM_ HO303.out (fun _ hk=>⟨hk.1.2,hk.2⟩)),(rM_ HO306.out (fun _ hk=>⟨hk.2,hk.1.2⟩)),BK298.out,BK299.out,BK300.out,HB.out⟩)
  rintro ⟨v302,v305⟩ w13 ⟨hS_,h0_,h1_,h2_,h3_,h4_,h5_⟩;have n0_ : Aside0 (Kd.R k49 49 w13 w.heap.size (fun k_=>some k_ ≠ (v305 : Value).ownBlock ∧ k_ ≠ gb299) v302 t301):=⟨h0_⟩
  have n1_ : Aside0 (Kd.R k49 49 w13 w.heap.size (fun k_=>some k_ ≠ (v302 : Value).ownBlock ∧ k_ ≠ gb299) v305 y304):=⟨h1_⟩
  have n2_ : Aside0 (w13.heap[gb298]? = some (.cells #[.int .i8 a0_0,.int .i8 a0_1,.slice A0_2 l0_2.length c0_2] 29 (0,0))):=⟨h2_⟩
  have n3_ : Aside0 (w13.heap[gb299]? = some (.cells #[.int .i8 a1_0,.int .i8 a1_1,.int .i8 a1_2,.int .i8 a1_3] 49 (0,0))):=⟨h3_⟩
  have n4_ : Aside0 (w13.heap[gb300]? = some (.cells #[.int .i8 0,.int .i8 0,.slice none 0 0] 29 (0,0))):=⟨h4_⟩
  have n5_ : Aside0 (Below w.heap.size w w13):=⟨h5_⟩
  clear BK298;clear BK299;clear BK300;clear HB;clear h0_ h1_ h2_ h3_ h4_ h5_;have HO303:=n0_;have HO306:=n1_;have BK298:=n2_;have BK299:=n3_;have BK300:=n4_;have HB:=n5_;clear n0_ n1_ n2_ n3_ n4_ n5_;have hHeld : w13.cell? ⟨gb298,0,none⟩ = some (.int .i8 a0_0) ∧ w13.cell? ⟨gb298,1,none⟩ = some (.int .i8 a0_1) ∧ w13.cell? ⟨gb298,2,none⟩ = some (.slice A0_2 l0_2.length c0_2) ∧ w13.cell? ⟨gb299,0,none⟩ = some (.int .i8 a1_0) ∧ w13.cell? ⟨gb299,1,none⟩ = some (.int .i8 a1_1) ∧ w13.cell? ⟨gb299,2,none⟩ = some (.int .i8 a1_2) ∧ w13.cell? ⟨gb299,3,none⟩ = some (.int .i8 a1_3):=hS_;obtain ⟨Ao15,co15,eo15⟩:=Kd.R_slice HO306.out
  (first|subst eo15|(injection eo15 with f1_ f2_ f3_;have f4_:=f1_.symm;have f5_:=f3_.symm;clear f1_ f2_ f3_;subst f4_;subst f5_))
  refine norm_ (a':=?_) ?_ ?_;rotate_left
  ·
   simp only [putAll,Act.put,z1_,z2_,z3_]
   rfl
  refine one_ (i:=6) (N:=some 11) (mB_ 9 127) rfl rfl (one_of HT_.out (by kernel_rfl)) (by decide) (fun K hK=>?_);refine Kd.R_append_rows_step k49 (w0:=w) w.heap.size (by rfl) (.tmp 8) (.tmp 10) 27 49 (.agg #[(.int .i8 0),(.int .i8 0),(.int .i8 0),(.int .i8 0)]) 4 rfl Try.underlying27 info49 rfl (by decide) (by omega) v302 t301 y304 _ _ _ (fun k_=>some k_ ≠ (.slice Ao15 y304.length co15 : Value).ownBlock ∧ k_ ≠ gb299) (fun _=>False) rfl rfl ?aO ?aR (fun _ _ h=>h) (fun _ h=>h.elim) ?aF ?aB ?aS ?aL ?_
  (case aR=>repeat (first|exact (Kd.R_reads' HO306.out).2.2|(with_reducible refine Kd.C_alloc ?_ _)|(with_reducible refine Kd.C_drewN ?_ _)|(with_reducible refine Kd.C_drew ?_)))
  (case aB=>exact HB.out)
  (case aF=>exact (fun k_ hk=>⟨Kd.fresh' (Kd.R_lt HO306.out) k_ hk,Kd.freshB (g:=gb299) (o:=.cells #[.int .i8 a1_0,.int .i8 a1_1,.int .i8 a1_2,.int .i8 a1_3] 49 (0,0)) BK299.out k_ hk⟩))
  (case aO=>exact HO303.out)
  (case aS=>exact (bZ_ HB.out))
  (case aL=>have:=LMc4.out;omega)
  intro v308 w14 ho hb hg hat;rw [← Ny307.out] at ho;have n0_:=am_ (blk_grown (g:=gb298) (o:=.cells #[.int .i8 a0_0,.int .i8 a0_1,.slice A0_2 l0_2.length c0_2] 29 (0,0)) BK298.out hg (Kd.R_ne HO303.out BK298.out (by decide)));have n1_:=am_ (blk_grown (g:=gb299) (o:=.cells #[.int .i8 a1_0,.int .i8 a1_1,.int .i8 a1_2,.int .i8 a1_3] 49 (0,0)) BK299.out hg (Kd.R_away HO303.out (fun _ hk=>hk.2)));have n2_:=am_ (blk_grown (g:=gb300) (o:=.cells #[.int .i8 0,.int .i8 0,.slice none 0 0] 29 (0,0)) BK300.out hg (Kd.R_ne HO303.out BK300.out (by decide)));have n3_:=am_ (Kd.R_after (ok:=(fun k_=>k_ ≠ gb299)) (rM_ HO306.out (fun _ hk=>⟨hk.2,hk.1⟩)) hg hat);have n4_:=am_ (hb);have n5_:=am_ (ho);clear BK298;clear BK299;clear BK300;clear HO306;clear HB;clear HO303;have BK298:=n0_;have BK299:=n1_;have BK300:=n2_;have HO306:=n3_;have HB:=n4_;have HO309:=n5_;clear n0_ n1_ n2_ n3_ n4_ n5_;clear ho hb hg hat;obtain ⟨Ao16,co16,eo16⟩:=Kd.R_slice HO309.out
  (first|subst eo16|(injection eo16 with f1_ f2_ f3_;have f4_:=f1_.symm;have f5_:=f3_.symm;clear f1_ f2_ f3_;subst f4_;subst f5_))
  refine hK.out _ _ ⟨(kC_ BK298.out 0).trans rfl,(kC_ BK298.out 1).trans rfl,(kC_ BK298.out 2).trans rfl,(kC_ BK299.out 0).trans rfl,(kC_ BK299.out 1).trans rfl,(kC_ BK299.out 2).trans rfl,(kC_ BK299.out 3).trans rfl⟩ (fun hHeld=>?_);clear hK K;refine norm_ (a':=?_) ?_ ?_;rotate_left
  ·
   show Act.put _ (some 11) _ = _
   simp only [Act.put,z1_,z2_,z3_,i64_w,i32_w]
   rfl
  refine one_ (i:=7) (N:=some 12) (mB_ 9 255) rfl rfl (one_of HT_.out (by kernel_rfl)) (by decide) (fun K hK=>?_);refine goes_ Try.func50 (by kernel_rfl) rfl #[.agg #[.int .i8 a0_0,.int .i8 a0_1,.slice A0_2 l0_2.length c0_2],.slice Ao16 y307.length co16] (by rfl) rfl rfl (by (try simp only [List.map_toArray,List.map_cons,List.map_nil]);first|done|rfl|(simp only [List.length_drop,List.length_take];rfl)) ?_
  with_reducible refine (impl_Square_with.calls a0_0 a0_1 _ _ l0_2 _ _ y307 t310 t311 t312 _ ?side1 ?side2 ?side3 ?side4 A5.out).mono ?_
  (case side1=>repeat (first|exact (cB_ HR0_2.out HB.out)|(with_reducible refine Kd.C_alloc ?_ _)|(with_reducible refine Kd.C_drewN ?_ _)|(with_reducible refine Kd.C_drew ?_)))
  (case side2=>exact HC0_2.out)
  (case side3=>repeat (first|exact (Kd.R_reads' HO309.out).2.2|(with_reducible refine Kd.C_alloc ?_ _)|(with_reducible refine Kd.C_drewN ?_ _)|(with_reducible refine Kd.C_drew ?_)))
  (case side4=>exact (Kd.R_reads' HO309.out).2.1)
  rintro e w17 ⟨v313,rfl,ho0,hb⟩;refine ⟨_,rfl,?_⟩;have n0_:=am_ (Kd.R_elder' HO306.out (Kd.R_base ho0) hb);have n1_:=am_ (Kd.R_elder' HO309.out (Kd.R_base ho0) hb);have n2_:=am_ (Kd.R_lower (Kd.R_newB (Kd.R_new' (Kd.R_new' ho0 (Kd.R_lt HO306.out)) (Kd.R_lt HO309.out)) (g:=gb299) (o:=.cells #[.int .i8 a1_0,.int .i8 a1_1,.int .i8 a1_2,.int .i8 a1_3] 49 (0,0)) BK299.out) (bZ_ HB.out));have n3_:=am_ (kB_ BK298.out hb);have n4_:=am_ (kB_ BK299.out hb);have n5_:=am_ (kB_ BK300.out hb);have n6_:=am_ (bT_ HB.out hb);clear HO306;clear HO309;clear BK298;clear BK299;clear BK300;clear HB;have HO306:=n0_;have HO309:=n1_;have HO314:=n2_;have BK298:=n3_;have BK299:=n4_;have BK300:=n5_;have HB:=n6_;clear n0_ n1_ n2_ n3_ n4_ n5_ n6_;(try clear hb);(try clear hb2);(try clear hk);(try clear hi);(try clear ho0);obtain ⟨Ao20,co20,eo20⟩:=Kd.R_slice HO314.out
  (first|subst eo20|(injection eo20 with f1_ f2_ f3_;have f4_:=f1_.symm;have f5_:=f3_.symm;clear f1_ f2_ f3_;subst f4_;subst f5_))
  refine hK.out _ _ ⟨(kC_ BK298.out 0).trans rfl,(kC_ BK298.out 1).trans rfl,(kC_ BK298.out 2).trans rfl,(kC_ BK299.out 0).trans rfl,(kC_ BK299.out 1).trans rfl,(kC_ BK299.out 2).trans rfl,(kC_ BK299.out 3).trans rfl⟩ (fun hHeld=>?_);clear hK K;refine norm_ (a':=?_) ?_ ?_;rotate_left
  ·
   show Act.put _ (some 12) _ = _
   simp only [Act.put,z1_,z2_,z3_,i64_w,i32_w]
   rfl
  refine one_ (i:=8) (N:=none) (mB_ 9 511) rfl rfl (one_of HT_.out (by kernel_rfl)) (by decide) (fun K hK=>?_);have hs18 : w17.cell? ⟨gb300,0,none⟩ = some (.int .i8 0):=(kC_ BK300.out 0).trans rfl;have hfs18:=kF_ BK300.out 0;have hns18_0:=NB298_300.out;have hns18_1:=NB299_300.out;have hms18_0:=NB300_298.out;have hms18_1:=NB300_299.out;have hs19 : w17.cell? ⟨gb300,1,none⟩ = some (.int .i8 0):=(kC_ BK300.out 1).trans rfl;have hfs19:=kF_ BK300.out 1;have hns19_0:=NB298_300.out;have hns19_1:=NB299_300.out;have hms19_0:=NB300_298.out;have hms19_1:=NB300_299.out;have hs21 : w17.cell? ⟨gb300,2,none⟩ = some (.slice none 0 0):=(kC_ BK300.out 2).trans rfl;have hfs21:=kF_ BK300.out 2;have hns21_0:=NB298_300.out;have hns21_1:=NB299_300.out;have hms21_0:=NB300_298.out;have hms21_1:=NB300_299.out;refine skip_ (w1:=?_) (by rfl) rfl ?_ ?_;rotate_left
  ·
   go_simp
   rfl
  refine hK.out _ _ ⟨((cell_far (p:=⟨gb300,_,none⟩) NB298_300.out _).trans (((cell_far (p:=⟨gb300,_,none⟩) NB298_300.out _).trans (((cell_far (p:=⟨gb300,_,none⟩) NB298_300.out _).trans (hHeld.1)))))),((cell_far (p:=⟨gb300,_,none⟩) NB298_300.out _).trans (((cell_far (p:=⟨gb300,_,none⟩) NB298_300.out _).trans (((cell_far (p:=⟨gb300,_,none⟩) NB298_300.out _).trans (hHeld.2.1)))))),((cell_far (p:=⟨gb300,_,none⟩) NB298_300.out _).trans (((cell_far (p:=⟨gb300,_,none⟩) NB298_300.out _).trans (((cell_far (p:=⟨gb300,_,none⟩) NB298_300.out _).trans (hHeld.2.2.1)))))),((cell_far (p:=⟨gb300,_,none⟩) NB299_300.out _).trans (((cell_far (p:=⟨gb300,_,none⟩) NB299_300.out _).trans (((cell_far (p:=⟨gb300,_,none⟩) NB299_300.out _).trans (hHeld.2.2.2.1)))))),((cell_far (p:=⟨gb300,_,none⟩) NB299_300.out _).trans (((cell_far (p:=⟨gb300,_,none⟩) NB299_300.out _).trans (((cell_far (p:=⟨gb300,_,none⟩) NB299_300.out _).trans (hHeld.2.2.2.2.1)))))),((cell_far (p:=⟨gb300,_,none⟩) NB299_300.out _).trans (((cell_far (p:=⟨gb300,_,none⟩) NB299_300.out _).trans (((cell_far (p:=⟨gb300,_,none⟩) NB299_300.out _).trans (hHeld.2.2.2.2.2.1)))))),((cell_far (p:=⟨gb300,_,none⟩) NB299_300.out _).trans (((cell_far (p:=⟨gb300,_,none⟩) NB299_300.out _).trans (((cell_far (p:=⟨gb300,_,none⟩) NB299_300.out _).trans (hHeld.2.2.2.2.2.2))))))⟩ (fun hHeld=>?_);clear hK K;refine done_ (done_of HT_.out (by kernel_rfl)) ?_
  try go_wp2
  refine bodyPost_ret (results_cell_row rfl _ _ gb300 29 #[.int .i8 t310,.int .i8 t311,.slice Ao20 t312.length co20] (0,0) _ rfl (by (with_reducible repeat (first|apply kN_|apply kD_|apply kA_));refine blk_put (cs:=#[.int .i8 t310,.int .i8 t311,.slice none 0 0]) ?_ 2 _ rfl;(with_reducible repeat (first|apply kN_|apply kD_|apply kA_));refine blk_put (cs:=#[.int .i8 t310,.int .i8 0,.slice none 0 0]) ?_ 1 _ rfl;(with_reducible repeat (first|apply kN_|apply kD_|apply kA_));refine blk_put (cs:=#[.int .i8 0,.int .i8 0,.slice none 0 0]) ?_ 0 _ rfl;(with_reducible repeat (first|apply kN_|apply kD_|apply kA_));exact BK300.out) Try.underlying29 rfl (by kernel_rfl)) rfl ?_;exact ⟨_,by first|rfl|(simp [errW_none,errW_some] <;> rfl)|(simp [*,errW_none,errW_some] <;> rfl),by (with_reducible repeat (first|apply Kd.R_alloc|apply Kd.R_drewN|apply Kd.R_drew));exact rM_ (Kd.R_far (p:=⟨gb300,2,none⟩) (Kd.R_far (p:=⟨gb300,1,none⟩) (Kd.R_far (p:=⟨gb300,0,none⟩) (Kd.R_types HO314.out BK300.out (by decide)) (fun _ hk=>hk.2) (.int .i8 t310)) (fun _ hk=>hk.2) (.int .i8 t311)) (fun _ hk=>hk.2) (.slice Ao20 t312.length co20)) (fun _ hk=>trivial),by repeat (first|(with_reducible first|exact HB.out|apply bA_|apply bN_|apply bD_|refine bS_ ?_ GE298.out|refine bS_ ?_ GE299.out|refine bS_ ?_ GE300.out)|exact HB.out)⟩
 ·
  rw [if_neg c4] at H;exact absurd H (by simp)
end Go.Proofs.Ytjadgmafgkoanaa.Q
