-- By a program of this session's: of the print's words what this claim needs. Lean checks it.
import Derived.Test.YtanpafadehnhlaaXQ0
import Derived.Test.YtanpafadehnhlaaXQ11
namespace Go.Proofs.Ytanpafadehnhlaa.Q
open Go.RowKit Go.Proofs.YtanpafadehnhlaaW.PrintWords Go.Proofs.YtanpafadehnhlaaW.PrintLast Go.Proofs.YtanpafadehnhlaaW.PrintMore
attribute [local go_sem] max2_int min2_int max_two min_two max_three min_three max_four min_four
set_option linter.unusedVariables false
set_option linter.unusedSimpArgs false
attribute [local go_sem high] eqA38
def impl_areBeside.f (a0_0 : Int) (a0_1 : Int) (a0_2 : Int) (a0_3 : Int) (a1_0 : Int) (a1_1 : Int) (a1_2 : Int) (a1_3 : Int) : Option (Bool) := if (!(a0_0 == a1_0) || (!(a0_1 == a1_1) || (!(a0_2 == a1_2) || (!(a0_3 == a1_3))))) = true then ((impl_Slab_meets.f (IntKind.i8.wrap (a0_0 - 1)) a0_1 (IntKind.i8.wrap (a0_2 + 2)) a0_3 a1_0 a1_1 a1_2 a1_3).bind fun t386 => (if t386 = true then (some true) else ((impl_Slab_meets.f a0_0 (IntKind.i8.wrap (a0_1 - 1)) a0_2 (IntKind.i8.wrap (a0_3 + 2)) a1_0 a1_1 a1_2 a1_3).bind fun t387 => (some t387)))) else (some false)
def impl_areBeside.T2 : Bool × List (List Nat × List Nat) := (true, [([], []), ([0], [0]), ([1], [1]), ([], []), ([3], [3]), ([4], [4]), ([0, 1, 2], []), ([6, 2, 0, 1, 2], [2, 6]), ([0, 1, 2, 3, 4, 5, 6, 7], []), ([8, 5, 7, 0, 1, 2, 3, 4, 5, 6, 7], [5, 8])])
def impl_areBeside.B2 : List Nat := [0, 1, 3, 0, 8, 24, 7, 71, 255, 511]
theorem impl_areBeside.tab2 : rtab .any (opsOf Try.f91 2) = impl_areBeside.T2 := by kernel_rfl
theorem impl_areBeside.bits2 : waitsOk impl_areBeside.T2.2 impl_areBeside.B2 = true := by kernel_rfl
def impl_areBeside.T3 : Bool × List (List Nat × List Nat) := (true, [([], []), ([0], [0]), ([1], [1]), ([], []), ([3], [3]), ([4], [4]), ([0, 1, 2], []), ([6, 2, 0, 1, 2], [2, 6]), ([0, 1, 2, 3, 4, 5, 6, 7], []), ([8, 5, 7, 0, 1, 2, 3, 4, 5, 6, 7], [5, 8])])
def impl_areBeside.B3 : List Nat := [0, 1, 3, 0, 8, 24, 7, 71, 255, 511]
theorem impl_areBeside.tab3 : rtab .any (opsOf Try.f91 3) = impl_areBeside.T3 := by kernel_rfl
theorem impl_areBeside.bits3 : waitsOk impl_areBeside.T3.2 impl_areBeside.B3 = true := by kernel_rfl
set_option maxHeartbeats 8000000 in
set_option maxRecDepth 100000 in
theorem impl_areBeside.calls (a0_0 : Int) (a0_1 : Int) (a0_2 : Int) (a0_3 : Int) (a1_0 : Int) (a1_1 : Int) (a1_2 : Int) (a1_3 : Int) (r : Bool) (w : World) (h : impl_areBeside.f a0_0 a0_1 a0_2 a0_3 a1_0 a1_1 a1_2 a1_3 = some r) :
  Calls Try.prog 91 #[.agg #[.int .i8 a0_0,.int .i8 a0_1,.int .i8 a0_2,.int .i8 a0_3],.agg #[.int .i8 a1_0,.int .i8 a1_1,.int .i8 a1_2,.int .i8 a1_3]] w fun e w'=>e = .returned (.bool r) ∧ Below w.heap.size w w':=by
 have hu38:=Try.underlying38;have HB:=am_ (Below.refl w.heap.size w);have H : (if (!(a0_0 == a1_0) ||(!(a0_1 == a1_1) ||(!(a0_2 == a1_2) ||(!(a0_3 == a1_3))))) = true then ((impl_Slab_meets.f (IntKind.i8.wrap (a0_0 - 1)) a0_1 (IntKind.i8.wrap (a0_2 + 2)) a0_3 a1_0 a1_1 a1_2 a1_3).bind fun t386=>(if t386 = true then (some true) else ((impl_Slab_meets.f a0_0 (IntKind.i8.wrap (a0_1 - 1)) a0_2 (IntKind.i8.wrap (a0_3 + 2)) a1_0 a1_1 a1_2 a1_3).bind fun t387=>(some t387)))) else (some false)) = some r:=h;clear h
 by_cases c3 : (!(a0_0 == a1_0) ||(!(a0_1 == a1_1) ||(!(a0_2 == a1_2) ||(!(a0_3 == a1_3))))) = true
 ·
  rw [if_pos c3] at H;have c3b0 : (!(a0_0 == a1_0) ||(!(a0_1 == a1_1) ||(!(a0_2 == a1_2) ||(!(a0_3 == a1_3))))) = true:=c3;clear c3;replace H:=Option.bind_eq_some_iff.mp H;obtain ⟨t386,A40,H⟩:=H;replace H : (if t386 = true then (some true) else ((impl_Slab_meets.f a0_0 (IntKind.i8.wrap (a0_1 - 1)) a0_2 (IntKind.i8.wrap (a0_3 + 2)) a1_0 a1_1 a1_2 a1_3).bind fun t387=>(some t387))) = some r:=H;have A4:=am_ A40;clear A40
  by_cases c5 : t386 = true
  ·
   subst c5;have H1 : (some true) = some r:=by rw [if_pos rfl] at H;exact H
   clear H;have H:=H1;clear H1;obtain rfl:=Option.some.inj H
   go_enter Try.func91,Try.ntmps91
   try go_wp2_with (first|((with_reducible refine gate_dst (N:=2) rfl ?_);refine box_event ?hg (N:=2) ?hd (cs:=#[.int .i8 a0_0,.int .i8 a0_1,.int .i8 a0_2,.int .i8 a0_3]) (t:=38) ?hr ?_;(case hd=>rfl);(case hg=>rfl);(case hr=>first|(go_simp;done)|(go_simp;rfl));intro gb382 hg w6 hbox hb;have n0_:=am_ (bT_ (by repeat (first|(with_reducible first|exact HB.out|apply bA_|apply bN_|apply bD_)|exact HB.out)) hb);have n1_:=am_ (hbox);have n2_:=am_ ((by rw [hg];exact (below_size (by repeat (first|(with_reducible first|exact HB.out|apply bA_|apply bN_|apply bD_)|exact HB.out))) : w.heap.size≤gb382));have n3_:=n2_;clear HB;have HB:=n0_;have BK382:=n1_;have GW382:=n2_;have GE382:=n3_;clear n0_ n1_ n2_ n3_;clear hb hbox hg)|((with_reducible refine gate_dst (N:=3) rfl ?_);refine box_event ?hg (N:=3) ?hd (cs:=#[.int .i8 a1_0,.int .i8 a1_1,.int .i8 a1_2,.int .i8 a1_3]) (t:=38) ?hr ?_;(case hd=>rfl);(case hg=>rfl);(case hr=>first|(go_simp;done)|(go_simp;rfl));intro gb383 hg w7 hbox hb;have n0_:=am_ (blk_below (g:=gb382) (o:=.cells #[.int .i8 a0_0,.int .i8 a0_1,.int .i8 a0_2,.int .i8 a0_3] 38 (0,0)) (by (with_reducible repeat (first|apply kN_|apply kD_|apply kA_));exact BK382.out) hb);have n1_:=am_ (bT_ (by repeat (first|(with_reducible first|exact HB.out|apply bA_|apply bN_|apply bD_|refine bS_ ?_ GE382.out)|exact HB.out)) hb);have n2_:=am_ (hbox);have n3_:=am_ ((by rw [hg];exact (below_size (by repeat (first|(with_reducible first|exact HB.out|apply bA_|apply bN_|apply bD_|refine bS_ ?_ GE382.out)|exact HB.out))) : w.heap.size≤gb383));have n4_:=n3_;have n5_:=am_ ((by rw [hg];exact Nat.ne_of_lt (blk_lt (g:=gb382) (o:=.cells #[.int .i8 a0_0,.int .i8 a0_1,.int .i8 a0_2,.int .i8 a0_3] 38 (0,0)) (by (with_reducible repeat (first|apply kN_|apply kD_|apply kA_));exact BK382.out)) : gb382 ≠ gb383));have n6_:=am_ ((by rw [hg];exact Nat.ne_of_gt (blk_lt (g:=gb382) (o:=.cells #[.int .i8 a0_0,.int .i8 a0_1,.int .i8 a0_2,.int .i8 a0_3] 38 (0,0)) (by (with_reducible repeat (first|apply kN_|apply kD_|apply kA_));exact BK382.out)) : gb383 ≠ gb382));clear BK382;clear HB;have BK382:=n0_;have HB:=n1_;have BK383:=n2_;have GW383:=n3_;have GE383:=n4_;have NB382_383:=n5_;have NB383_382:=n6_;clear n0_ n1_ n2_ n3_ n4_ n5_ n6_;clear hb hbox hg))
   have n0_:=am_ (kD_ BK382.out);have n1_:=am_ (kD_ BK383.out);have n2_:=am_ (bD_ HB.out);clear BK382;clear BK383;clear HB;have BK382:=n0_;have BK383:=n1_;have HB:=n2_;clear n0_ n1_ n2_;refine start_ (n:=6) (S:=fun w'=>w'.cell? ⟨gb382,0,none⟩ = some (.int .i8 a0_0) ∧ w'.cell? ⟨gb382,1,none⟩ = some (.int .i8 a0_1) ∧ w'.cell? ⟨gb382,2,none⟩ = some (.int .i8 a0_2) ∧ w'.cell? ⟨gb382,3,none⟩ = some (.int .i8 a0_3)) (ds:=[]) (mB_ 6 0) (by kernel_rfl) rfl rfl ⟨(kC_ BK382.out 0).trans rfl,(kC_ BK382.out 1).trans rfl,(kC_ BK382.out 2).trans rfl,(kC_ BK382.out 3).trans rfl⟩ (fun hHeld=>?_);generalize w7.drew = w8 at BK382 BK383 HB hHeld ⊢;refine take_ (i:=0) (N:=some 7) (v:=?_) (a':=?_) (mB_ 6 1) rfl rfl (by kernel_rfl) (fun _ _ _ h=>h) (Or.inl ⟨by rfl,?_⟩) hHeld ?_ ?_;rotate_left
   ·
    rintro w' ⟨s0,s1,s2,s3⟩
    go_simp
    with_reducible rfl
   rotate_left
   ·
    simp only [Act.put,z1_,z2_,z3_,i64_w,i32_w]
    rfl
   refine take_ (i:=1) (N:=some 8) (v:=?_) (a':=?_) (mB_ 6 3) rfl rfl (by kernel_rfl) (fun _ _ _ h=>h) (Or.inl ⟨by rfl,?_⟩) hHeld ?_ ?_;rotate_left
   ·
    rintro w' ⟨s0,s1,s2,s3⟩
    go_simp
    with_reducible rfl
   rotate_left
   ·
    simp only [Act.put,z1_,z2_,z3_,i64_w,i32_w]
    rfl
   refine join_ (σ:=Nat × Nat) 2 (mB_ 6 15) (fun s_=>[(5,.pointer (some ⟨s_.1,0,none⟩)),(6,.pointer (some ⟨s_.2,0,none⟩))]) (fun s_ w'=>(w'.cell? ⟨gb382,0,none⟩ = some (.int .i8 a0_0) ∧ w'.cell? ⟨gb382,1,none⟩ = some (.int .i8 a0_1) ∧ w'.cell? ⟨gb382,2,none⟩ = some (.int .i8 a0_2) ∧ w'.cell? ⟨gb382,3,none⟩ = some (.int .i8 a0_3)) ∧ (w'.heap[gb382]? = some (.cells #[.int .i8 a0_0,.int .i8 a0_1,.int .i8 a0_2,.int .i8 a0_3] 38 (0,0))) ∧ (w'.heap[gb383]? = some (.cells #[.int .i8 a1_0,.int .i8 a1_1,.int .i8 a1_2,.int .i8 a1_3] 38 (0,0))) ∧ (w'.heap[s_.1]? = some (.cells #[.int .i8 0,.int .i8 0,.int .i8 0,.int .i8 0] 38 (0,0))) ∧ (w'.heap[s_.2]? = some (.cells #[.int .i8 0,.int .i8 0,.int .i8 0,.int .i8 0] 38 (0,0))) ∧ (w.heap.size≤s_.1) ∧ (w.heap.size≤s_.1) ∧ (gb382 ≠ s_.1) ∧ (s_.1 ≠ gb382) ∧ (gb383 ≠ s_.1) ∧ (s_.1 ≠ gb383) ∧ (s_.2 ≠ s_.1) ∧ (s_.1 ≠ s_.2) ∧ (w.heap.size≤s_.2) ∧ (w.heap.size≤s_.2) ∧ (gb382 ≠ s_.2) ∧ (s_.2 ≠ gb382) ∧ (gb383 ≠ s_.2) ∧ (s_.2 ≠ gb383) ∧ (Below w.heap.size w w')) ?_ ?_;rotate_left
   ·
    intro hCont;refine two_ (i:=2) (j:=3) (Ni:=some 5) (Nj:=some 6) (mB_ 6 7) (mB_ 6 11) rfl rfl rfl rfl (by kernel_rfl) (by decide) (by decide) (fun K hK=>?_) (fun K hK=>?_)
    ·
     skip
     refine box_step ?hg (N:=5) ?hd (cs:=#[.int .i8 0,.int .i8 0,.int .i8 0,.int .i8 0]) (t:=38) ?hr ?_;(case hd=>rfl);(case hg=>rfl);(case hr=>first|(go_simp;done)|(go_simp;rfl));intro gb384 hg w9 hbox hb;have n0_:=am_ (blk_below (g:=gb382) (o:=.cells #[.int .i8 a0_0,.int .i8 a0_1,.int .i8 a0_2,.int .i8 a0_3] 38 (0,0)) (by (with_reducible repeat (first|apply kN_|apply kD_|apply kA_));exact BK382.out) hb);have n1_:=am_ (blk_below (g:=gb383) (o:=.cells #[.int .i8 a1_0,.int .i8 a1_1,.int .i8 a1_2,.int .i8 a1_3] 38 (0,0)) (by (with_reducible repeat (first|apply kN_|apply kD_|apply kA_));exact BK383.out) hb);have n2_:=am_ (bT_ (by repeat (first|(with_reducible first|exact HB.out|apply bA_|apply bN_|apply bD_|refine bS_ ?_ GE382.out|refine bS_ ?_ GE383.out)|exact HB.out)) hb);have n3_:=am_ (hbox);have n4_:=am_ ((by rw [hg];exact (below_size (by repeat (first|(with_reducible first|exact HB.out|apply bA_|apply bN_|apply bD_|refine bS_ ?_ GE382.out|refine bS_ ?_ GE383.out)|exact HB.out))) : w.heap.size≤gb384));have n5_:=am_ ((by rw [hg];exact (below_size (by repeat (first|(with_reducible first|exact HB.out|apply bA_|apply bN_|apply bD_|refine bS_ ?_ GE382.out|refine bS_ ?_ GE383.out)|exact HB.out))) : w.heap.size≤gb384));have n6_:=am_ ((by rw [hg];exact Nat.ne_of_lt (blk_lt (g:=gb382) (o:=.cells #[.int .i8 a0_0,.int .i8 a0_1,.int .i8 a0_2,.int .i8 a0_3] 38 (0,0)) (by (with_reducible repeat (first|apply kN_|apply kD_|apply kA_));exact BK382.out)) : gb382 ≠ gb384));have n7_:=am_ ((by rw [hg];exact Nat.ne_of_gt (blk_lt (g:=gb382) (o:=.cells #[.int .i8 a0_0,.int .i8 a0_1,.int .i8 a0_2,.int .i8 a0_3] 38 (0,0)) (by (with_reducible repeat (first|apply kN_|apply kD_|apply kA_));exact BK382.out)) : gb384 ≠ gb382));have n8_:=am_ ((by rw [hg];exact Nat.ne_of_lt (blk_lt (g:=gb383) (o:=.cells #[.int .i8 a1_0,.int .i8 a1_1,.int .i8 a1_2,.int .i8 a1_3] 38 (0,0)) (by (with_reducible repeat (first|apply kN_|apply kD_|apply kA_));exact BK383.out)) : gb383 ≠ gb384));have n9_:=am_ ((by rw [hg];exact Nat.ne_of_gt (blk_lt (g:=gb383) (o:=.cells #[.int .i8 a1_0,.int .i8 a1_1,.int .i8 a1_2,.int .i8 a1_3] 38 (0,0)) (by (with_reducible repeat (first|apply kN_|apply kD_|apply kA_));exact BK383.out)) : gb384 ≠ gb383));clear BK382;clear BK383;clear HB;have BK382:=n0_;have BK383:=n1_;have HB:=n2_;have BK384:=n3_;have GW384:=n4_;have GE384:=n5_;have NB382_384:=n6_;have NB384_382:=n7_;have NB383_384:=n8_;have NB384_383:=n9_;clear n0_ n1_ n2_ n3_ n4_ n5_ n6_ n7_ n8_ n9_;clear hb hbox hg;refine hK.out _ _ ⟨(kC_ BK382.out 0).trans rfl,(kC_ BK382.out 1).trans rfl,(kC_ BK382.out 2).trans rfl,(kC_ BK382.out 3).trans rfl⟩ (fun hHeld=>?_);clear hK K;refine norm_ (a':=?_) ?_ ?_;rotate_left
     ·
      show Act.put _ (some 5) _ = _
      simp only [Act.put,z1_,z2_,z3_,i64_w,i32_w]
      rfl
     refine one_ (i:=3) (N:=some 6) (mB_ 6 15) rfl rfl (by kernel_rfl) (by decide) (fun K hK=>?_);refine box_step ?hg (N:=6) ?hd (cs:=#[.int .i8 0,.int .i8 0,.int .i8 0,.int .i8 0]) (t:=38) ?hr ?_;(case hd=>rfl);(case hg=>rfl);(case hr=>first|(go_simp;done)|(go_simp;rfl));intro gb385 hg w10 hbox hb;have n0_:=am_ (blk_below (g:=gb382) (o:=.cells #[.int .i8 a0_0,.int .i8 a0_1,.int .i8 a0_2,.int .i8 a0_3] 38 (0,0)) (by (with_reducible repeat (first|apply kN_|apply kD_|apply kA_));exact BK382.out) hb);have n1_:=am_ (blk_below (g:=gb383) (o:=.cells #[.int .i8 a1_0,.int .i8 a1_1,.int .i8 a1_2,.int .i8 a1_3] 38 (0,0)) (by (with_reducible repeat (first|apply kN_|apply kD_|apply kA_));exact BK383.out) hb);have n2_:=am_ (blk_below (g:=gb384) (o:=.cells #[.int .i8 0,.int .i8 0,.int .i8 0,.int .i8 0] 38 (0,0)) (by (with_reducible repeat (first|apply kN_|apply kD_|apply kA_));exact BK384.out) hb);have n3_:=am_ (bT_ (by repeat (first|(with_reducible first|exact HB.out|apply bA_|apply bN_|apply bD_|refine bS_ ?_ GE382.out|refine bS_ ?_ GE383.out|refine bS_ ?_ GE384.out)|exact HB.out)) hb);have n4_:=am_ (hbox);have n5_:=am_ ((by rw [hg];exact (below_size (by repeat (first|(with_reducible first|exact HB.out|apply bA_|apply bN_|apply bD_|refine bS_ ?_ GE382.out|refine bS_ ?_ GE383.out|refine bS_ ?_ GE384.out)|exact HB.out))) : w.heap.size≤gb385));have n6_:=am_ ((by rw [hg];exact (below_size (by repeat (first|(with_reducible first|exact HB.out|apply bA_|apply bN_|apply bD_|refine bS_ ?_ GE382.out|refine bS_ ?_ GE383.out|refine bS_ ?_ GE384.out)|exact HB.out))) : w.heap.size≤gb385));have n7_:=am_ ((by rw [hg];exact Nat.ne_of_lt (blk_lt (g:=gb382) (o:=.cells #[.int .i8 a0_0,.int .i8 a0_1,.int .i8 a0_2,.int .i8 a0_3] 38 (0,0)) (by (with_reducible repeat (first|apply kN_|apply kD_|apply kA_));exact BK382.out)) : gb382 ≠ gb385));have n8_:=am_ ((by rw [hg];exact Nat.ne_of_gt (blk_lt (g:=gb382) (o:=.cells #[.int .i8 a0_0,.int .i8 a0_1,.int .i8 a0_2,.int .i8 a0_3] 38 (0,0)) (by (with_reducible repeat (first|apply kN_|apply kD_|apply kA_));exact BK382.out)) : gb385 ≠ gb382));have n9_:=am_ ((by rw [hg];exact Nat.ne_of_lt (blk_lt (g:=gb383) (o:=.cells #[.int .i8 a1_0,.int .i8 a1_1,.int .i8 a1_2,.int .i8 a1_3] 38 (0,0)) (by (with_reducible repeat (first|apply kN_|apply kD_|apply kA_));exact BK383.out)) : gb383 ≠ gb385));have n10_:=am_ ((by rw [hg];exact Nat.ne_of_gt (blk_lt (g:=gb383) (o:=.cells #[.int .i8 a1_0,.int .i8 a1_1,.int .i8 a1_2,.int .i8 a1_3] 38 (0,0)) (by (with_reducible repeat (first|apply kN_|apply kD_|apply kA_));exact BK383.out)) : gb385 ≠ gb383));have n11_:=am_ ((by rw [hg];exact Nat.ne_of_lt (blk_lt (g:=gb384) (o:=.cells #[.int .i8 0,.int .i8 0,.int .i8 0,.int .i8 0] 38 (0,0)) (by (with_reducible repeat (first|apply kN_|apply kD_|apply kA_));exact BK384.out)) : gb384 ≠ gb385));have n12_:=am_ ((by rw [hg];exact Nat.ne_of_gt (blk_lt (g:=gb384) (o:=.cells #[.int .i8 0,.int .i8 0,.int .i8 0,.int .i8 0] 38 (0,0)) (by (with_reducible repeat (first|apply kN_|apply kD_|apply kA_));exact BK384.out)) : gb385 ≠ gb384));clear BK382;clear BK383;clear BK384;clear HB;have BK382:=n0_;have BK383:=n1_;have BK384:=n2_;have HB:=n3_;have BK385:=n4_;have GW385:=n5_;have GE385:=n6_;have NB382_385:=n7_;have NB385_382:=n8_;have NB383_385:=n9_;have NB385_383:=n10_;have NB384_385:=n11_;have NB385_384:=n12_;clear n0_ n1_ n2_ n3_ n4_ n5_ n6_ n7_ n8_ n9_ n10_ n11_ n12_;clear hb hbox hg;refine hK.out _ _ ⟨(kC_ BK382.out 0).trans rfl,(kC_ BK382.out 1).trans rfl,(kC_ BK382.out 2).trans rfl,(kC_ BK382.out 3).trans rfl⟩ (fun hHeld=>?_);clear hK K;refine norm_ (a':=?_) ?_ ?_;rotate_left
     ·
      show Act.put _ (some 6) _ = _
      simp only [Act.put,z1_,z2_,z3_,i64_w,i32_w]
      rfl
     exact norm_ (by simp only [putAll,Act.put,z1_,z2_,z3_]) (hCont (gb384,gb385) _ ⟨hHeld,(by (with_reducible repeat (first|apply kN_|apply kD_|apply kA_));exact BK382.out),(by (with_reducible repeat (first|apply kN_|apply kD_|apply kA_));exact BK383.out),(by (with_reducible repeat (first|apply kN_|apply kD_|apply kA_));exact BK384.out),(by (with_reducible repeat (first|apply kN_|apply kD_|apply kA_));exact BK385.out),GW384.out,GE384.out,NB382_384.out,NB384_382.out,NB383_384.out,NB384_383.out,NB385_384.out,NB384_385.out,GW385.out,GE385.out,NB382_385.out,NB385_382.out,NB383_385.out,NB385_383.out,(by repeat (first|(with_reducible first|exact HB.out|apply bA_|apply bN_|apply bD_|refine bS_ ?_ GE382.out|refine bS_ ?_ GE383.out|refine bS_ ?_ GE384.out|refine bS_ ?_ GE385.out)|exact HB.out))⟩)
    ·
     skip
     refine box_step ?hg (N:=6) ?hd (cs:=#[.int .i8 0,.int .i8 0,.int .i8 0,.int .i8 0]) (t:=38) ?hr ?_;(case hd=>rfl);(case hg=>rfl);(case hr=>first|(go_simp;done)|(go_simp;rfl));intro gb385 hg w9 hbox hb;have n0_:=am_ (blk_below (g:=gb382) (o:=.cells #[.int .i8 a0_0,.int .i8 a0_1,.int .i8 a0_2,.int .i8 a0_3] 38 (0,0)) (by (with_reducible repeat (first|apply kN_|apply kD_|apply kA_));exact BK382.out) hb);have n1_:=am_ (blk_below (g:=gb383) (o:=.cells #[.int .i8 a1_0,.int .i8 a1_1,.int .i8 a1_2,.int .i8 a1_3] 38 (0,0)) (by (with_reducible repeat (first|apply kN_|apply kD_|apply kA_));exact BK383.out) hb);have n2_:=am_ (bT_ (by repeat (first|(with_reducible first|exact HB.out|apply bA_|apply bN_|apply bD_|refine bS_ ?_ GE382.out|refine bS_ ?_ GE383.out)|exact HB.out)) hb);have n3_:=am_ (hbox);have n4_:=am_ ((by rw [hg];exact (below_size (by repeat (first|(with_reducible first|exact HB.out|apply bA_|apply bN_|apply bD_|refine bS_ ?_ GE382.out|refine bS_ ?_ GE383.out)|exact HB.out))) : w.heap.size≤gb385));have n5_:=am_ ((by rw [hg];exact (below_size (by repeat (first|(with_reducible first|exact HB.out|apply bA_|apply bN_|apply bD_|refine bS_ ?_ GE382.out|refine bS_ ?_ GE383.out)|exact HB.out))) : w.heap.size≤gb385));have n6_:=am_ ((by rw [hg];exact Nat.ne_of_lt (blk_lt (g:=gb382) (o:=.cells #[.int .i8 a0_0,.int .i8 a0_1,.int .i8 a0_2,.int .i8 a0_3] 38 (0,0)) (by (with_reducible repeat (first|apply kN_|apply kD_|apply kA_));exact BK382.out)) : gb382 ≠ gb385));have n7_:=am_ ((by rw [hg];exact Nat.ne_of_gt (blk_lt (g:=gb382) (o:=.cells #[.int .i8 a0_0,.int .i8 a0_1,.int .i8 a0_2,.int .i8 a0_3] 38 (0,0)) (by (with_reducible repeat (first|apply kN_|apply kD_|apply kA_));exact BK382.out)) : gb385 ≠ gb382));have n8_:=am_ ((by rw [hg];exact Nat.ne_of_lt (blk_lt (g:=gb383) (o:=.cells #[.int .i8 a1_0,.int .i8 a1_1,.int .i8 a1_2,.int .i8 a1_3] 38 (0,0)) (by (with_reducible repeat (first|apply kN_|apply kD_|apply kA_));exact BK383.out)) : gb383 ≠ gb385));have n9_:=am_ ((by rw [hg];exact Nat.ne_of_gt (blk_lt (g:=gb383) (o:=.cells #[.int .i8 a1_0,.int .i8 a1_1,.int .i8 a1_2,.int .i8 a1_3] 38 (0,0)) (by (with_reducible repeat (first|apply kN_|apply kD_|apply kA_));exact BK383.out)) : gb385 ≠ gb383));clear BK382;clear BK383;clear HB;have BK382:=n0_;have BK383:=n1_;have HB:=n2_;have BK385:=n3_;have GW385:=n4_;have GE385:=n5_;have NB382_385:=n6_;have NB385_382:=n7_;have NB383_385:=n8_;have NB385_383:=n9_;clear n0_ n1_ n2_ n3_ n4_ n5_ n6_ n7_ n8_ n9_;clear hb hbox hg;refine hK.out _ _ ⟨(kC_ BK382.out 0).trans rfl,(kC_ BK382.out 1).trans rfl,(kC_ BK382.out 2).trans rfl,(kC_ BK382.out 3).trans rfl⟩ (fun hHeld=>?_);clear hK K;refine norm_ (a':=?_) ?_ ?_;rotate_left
     ·
      show Act.put _ (some 6) _ = _
      simp only [Act.put,z1_,z2_,z3_,i64_w,i32_w]
      rfl
     refine one_ (i:=2) (N:=some 5) (mB_ 6 15) rfl rfl (by kernel_rfl) (by decide) (fun K hK=>?_);refine box_step ?hg (N:=5) ?hd (cs:=#[.int .i8 0,.int .i8 0,.int .i8 0,.int .i8 0]) (t:=38) ?hr ?_;(case hd=>rfl);(case hg=>rfl);(case hr=>first|(go_simp;done)|(go_simp;rfl));intro gb384 hg w10 hbox hb;have n0_:=am_ (blk_below (g:=gb382) (o:=.cells #[.int .i8 a0_0,.int .i8 a0_1,.int .i8 a0_2,.int .i8 a0_3] 38 (0,0)) (by (with_reducible repeat (first|apply kN_|apply kD_|apply kA_));exact BK382.out) hb);have n1_:=am_ (blk_below (g:=gb383) (o:=.cells #[.int .i8 a1_0,.int .i8 a1_1,.int .i8 a1_2,.int .i8 a1_3] 38 (0,0)) (by (with_reducible repeat (first|apply kN_|apply kD_|apply kA_));exact BK383.out) hb);have n2_:=am_ (blk_below (g:=gb385) (o:=.cells #[.int .i8 0,.int .i8 0,.int .i8 0,.int .i8 0] 38 (0,0)) (by (with_reducible repeat (first|apply kN_|apply kD_|apply kA_));exact BK385.out) hb);have n3_:=am_ (bT_ (by repeat (first|(with_reducible first|exact HB.out|apply bA_|apply bN_|apply bD_|refine bS_ ?_ GE382.out|refine bS_ ?_ GE383.out|refine bS_ ?_ GE385.out)|exact HB.out)) hb);have n4_:=am_ (hbox);have n5_:=am_ ((by rw [hg];exact (below_size (by repeat (first|(with_reducible first|exact HB.out|apply bA_|apply bN_|apply bD_|refine bS_ ?_ GE382.out|refine bS_ ?_ GE383.out|refine bS_ ?_ GE385.out)|exact HB.out))) : w.heap.size≤gb384));have n6_:=am_ ((by rw [hg];exact (below_size (by repeat (first|(with_reducible first|exact HB.out|apply bA_|apply bN_|apply bD_|refine bS_ ?_ GE382.out|refine bS_ ?_ GE383.out|refine bS_ ?_ GE385.out)|exact HB.out))) : w.heap.size≤gb384));have n7_:=am_ ((by rw [hg];exact Nat.ne_of_lt (blk_lt (g:=gb382) (o:=.cells #[.int .i8 a0_0,.int .i8 a0_1,.int .i8 a0_2,.int .i8 a0_3] 38 (0,0)) (by (with_reducible repeat (first|apply kN_|apply kD_|apply kA_));exact BK382.out)) : gb382 ≠ gb384));have n8_:=am_ ((by rw [hg];exact Nat.ne_of_gt (blk_lt (g:=gb382) (o:=.cells #[.int .i8 a0_0,.int .i8 a0_1,.int .i8 a0_2,.int .i8 a0_3] 38 (0,0)) (by (with_reducible repeat (first|apply kN_|apply kD_|apply kA_));exact BK382.out)) : gb384 ≠ gb382));have n9_:=am_ ((by rw [hg];exact Nat.ne_of_lt (blk_lt (g:=gb383) (o:=.cells #[.int .i8 a1_0,.int .i8 a1_1,.int .i8 a1_2,.int .i8 a1_3] 38 (0,0)) (by (with_reducible repeat (first|apply kN_|apply kD_|apply kA_));exact BK383.out)) : gb383 ≠ gb384));have n10_:=am_ ((by rw [hg];exact Nat.ne_of_gt (blk_lt (g:=gb383) (o:=.cells #[.int .i8 a1_0,.int .i8 a1_1,.int .i8 a1_2,.int .i8 a1_3] 38 (0,0)) (by (with_reducible repeat (first|apply kN_|apply kD_|apply kA_));exact BK383.out)) : gb384 ≠ gb383));have n11_:=am_ ((by rw [hg];exact Nat.ne_of_lt (blk_lt (g:=gb385) (o:=.cells #[.int .i8 0,.int .i8 0,.int .i8 0,.int .i8 0] 38 (0,0)) (by (with_reducible repeat (first|apply kN_|apply kD_|apply kA_));exact BK385.out)) : gb385 ≠ gb384));have n12_:=am_ ((by rw [hg];exact Nat.ne_of_gt (blk_lt (g:=gb385) (o:=.cells #[.int .i8 0,.int .i8 0,.int .i8 0,.int .i8 0] 38 (0,0)) (by (with_reducible repeat (first|apply kN_|apply kD_|apply kA_));exact BK385.out)) : gb384 ≠ gb385));clear BK382;clear BK383;clear BK385;clear HB;have BK382:=n0_;have BK383:=n1_;have BK385:=n2_;have HB:=n3_;have BK384:=n4_;have GW384:=n5_;have GE384:=n6_;have NB382_384:=n7_;have NB384_382:=n8_;have NB383_384:=n9_;have NB384_383:=n10_;have NB385_384:=n11_;have NB384_385:=n12_;clear n0_ n1_ n2_ n3_ n4_ n5_ n6_ n7_ n8_ n9_ n10_ n11_ n12_;clear hb hbox hg;refine hK.out _ _ ⟨(kC_ BK382.out 0).trans rfl,(kC_ BK382.out 1).trans rfl,(kC_ BK382.out 2).trans rfl,(kC_ BK382.out 3).trans rfl⟩ (fun hHeld=>?_);clear hK K;refine norm_ (a':=?_) ?_ ?_;rotate_left
     ·
      show Act.put _ (some 5) _ = _
      simp only [Act.put,z1_,z2_,z3_,i64_w,i32_w]
      rfl
     exact norm_ (by simp only [putAll,Act.put,z1_,z2_,z3_]) (hCont (gb384,gb385) _ ⟨hHeld,(by (with_reducible repeat (first|apply kN_|apply kD_|apply kA_));exact BK382.out),(by (with_reducible repeat (first|apply kN_|apply kD_|apply kA_));exact BK383.out),(by (with_reducible repeat (first|apply kN_|apply kD_|apply kA_));exact BK384.out),(by (with_reducible repeat (first|apply kN_|apply kD_|apply kA_));exact BK385.out),GW384.out,GE384.out,NB382_384.out,NB384_382.out,NB383_384.out,NB384_383.out,NB385_384.out,NB384_385.out,GW385.out,GE385.out,NB382_385.out,NB385_382.out,NB383_385.out,NB385_383.out,(by repeat (first|(with_reducible first|exact HB.out|apply bA_|apply bN_|apply bD_|refine bS_ ?_ GE382.out|refine bS_ ?_ GE383.out|refine bS_ ?_ GE385.out|refine bS_ ?_ GE384.out)|exact HB.out))⟩)
   rintro ⟨gb384,gb385⟩ w11 ⟨hS_,h0_,h1_,h2_,h3_,h4_,h5_,h6_,h7_,h8_,h9_,h10_,h11_,h12_,h13_,h14_,h15_,h16_,h17_,h18_⟩;have n0_ : Aside0 (w11.heap[gb382]? = some (.cells #[.int .i8 a0_0,.int .i8 a0_1,.int .i8 a0_2,.int .i8 a0_3] 38 (0,0))):=⟨h0_⟩
   have n1_ : Aside0 (w11.heap[gb383]? = some (.cells #[.int .i8 a1_0,.int .i8 a1_1,.int .i8 a1_2,.int .i8 a1_3] 38 (0,0))):=⟨h1_⟩
   have n2_ : Aside0 (w11.heap[gb384]? = some (.cells #[.int .i8 0,.int .i8 0,.int .i8 0,.int .i8 0] 38 (0,0))):=⟨h2_⟩
   have n3_ : Aside0 (w11.heap[gb385]? = some (.cells #[.int .i8 0,.int .i8 0,.int .i8 0,.int .i8 0] 38 (0,0))):=⟨h3_⟩
   have n4_ : Aside0 (w.heap.size≤gb384):=⟨h4_⟩
   have n5_ : Aside0 (w.heap.size≤gb384):=⟨h5_⟩
   have n6_ : Aside0 (gb382 ≠ gb384):=⟨h6_⟩
   have n7_ : Aside0 (gb384 ≠ gb382):=⟨h7_⟩
   have n8_ : Aside0 (gb383 ≠ gb384):=⟨h8_⟩
   have n9_ : Aside0 (gb384 ≠ gb383):=⟨h9_⟩
   have n10_ : Aside0 (gb385 ≠ gb384):=⟨h10_⟩
   have n11_ : Aside0 (gb384 ≠ gb385):=⟨h11_⟩
   have n12_ : Aside0 (w.heap.size≤gb385):=⟨h12_⟩
   have n13_ : Aside0 (w.heap.size≤gb385):=⟨h13_⟩
   have n14_ : Aside0 (gb382 ≠ gb385):=⟨h14_⟩
   have n15_ : Aside0 (gb385 ≠ gb382):=⟨h15_⟩
   have n16_ : Aside0 (gb383 ≠ gb385):=⟨h16_⟩
   have n17_ : Aside0 (gb385 ≠ gb383):=⟨h17_⟩
   have n18_ : Aside0 (Below w.heap.size w w11):=⟨h18_⟩
   clear BK382;clear BK383;clear HB;clear h0_ h1_ h2_ h3_ h4_ h5_ h6_ h7_ h8_ h9_ h10_ h11_ h12_ h13_ h14_ h15_ h16_ h17_ h18_;have BK382:=n0_;have BK383:=n1_;have BK384:=n2_;have BK385:=n3_;have GW384:=n4_;have GE384:=n5_;have NB382_384:=n6_;have NB384_382:=n7_;have NB383_384:=n8_;have NB384_383:=n9_;have NB385_384:=n10_;have NB384_385:=n11_;have GW385:=n12_;have GE385:=n13_;have NB382_385:=n14_;have NB385_382:=n15_;have NB383_385:=n16_;have NB385_383:=n17_;have HB:=n18_;clear n0_ n1_ n2_ n3_ n4_ n5_ n6_ n7_ n8_ n9_ n10_ n11_ n12_ n13_ n14_ n15_ n16_ n17_ n18_;have hHeld : w11.cell? ⟨gb382,0,none⟩ = some (.int .i8 a0_0) ∧ w11.cell? ⟨gb382,1,none⟩ = some (.int .i8 a0_1) ∧ w11.cell? ⟨gb382,2,none⟩ = some (.int .i8 a0_2) ∧ w11.cell? ⟨gb382,3,none⟩ = some (.int .i8 a0_3):=hS_;refine norm_ (a':=?_) ?_ ?_;rotate_left
   ·
    simp only [putAll,Act.put,z1_,z2_,z3_]
    rfl
   refine one_ (i:=4) (N:=none) (mB_ 6 31) rfl rfl (by kernel_rfl) (by decide) (fun K hK=>?_);have hs12 : w11.cell? ⟨gb384,0,none⟩ = some (.int .i8 0):=(kC_ BK384.out 0).trans rfl;have hfs12:=kF_ BK384.out 0;have hns12_0:=NB382_384.out;have hns12_1:=NB383_384.out;have hns12_3:=NB385_384.out;have hms12_0:=NB384_382.out;have hms12_1:=NB384_383.out;have hms12_3:=NB384_385.out;have hs13 : w11.cell? ⟨gb384,1,none⟩ = some (.int .i8 0):=(kC_ BK384.out 1).trans rfl;have hfs13:=kF_ BK384.out 1;have hns13_0:=NB382_384.out;have hns13_1:=NB383_384.out;have hns13_3:=NB385_384.out;have hms13_0:=NB384_382.out;have hms13_1:=NB384_383.out;have hms13_3:=NB384_385.out;have hs14 : w11.cell? ⟨gb384,2,none⟩ = some (.int .i8 0):=(kC_ BK384.out 2).trans rfl;have hfs14:=kF_ BK384.out 2;have hns14_0:=NB382_384.out;have hns14_1:=NB383_384.out;have hns14_3:=NB385_384.out;have hms14_0:=NB384_382.out;have hms14_1:=NB384_383.out;have hms14_3:=NB384_385.out;have hs15 : w11.cell? ⟨gb384,3,none⟩ = some (.int .i8 0):=(kC_ BK384.out 3).trans rfl;have hfs15:=kF_ BK384.out 3;have hns15_0:=NB382_384.out;have hns15_1:=NB383_384.out;have hns15_3:=NB385_384.out;have hms15_0:=NB384_382.out;have hms15_1:=NB384_383.out;have hms15_3:=NB384_385.out;refine skip_ (w1:=?_) (by rfl) rfl ?_ ?_;rotate_left
   ·
    go_simp
    rfl
   refine hK.out _ _ ⟨((cell_far (p:=⟨gb384,_,none⟩) NB382_384.out _).trans (((cell_far (p:=⟨gb384,_,none⟩) NB382_384.out _).trans (((cell_far (p:=⟨gb384,_,none⟩) NB382_384.out _).trans (((cell_far (p:=⟨gb384,_,none⟩) NB382_384.out _).trans (hHeld.1)))))))),((cell_far (p:=⟨gb384,_,none⟩) NB382_384.out _).trans (((cell_far (p:=⟨gb384,_,none⟩) NB382_384.out _).trans (((cell_far (p:=⟨gb384,_,none⟩) NB382_384.out _).trans (((cell_far (p:=⟨gb384,_,none⟩) NB382_384.out _).trans (hHeld.2.1)))))))),((cell_far (p:=⟨gb384,_,none⟩) NB382_384.out _).trans (((cell_far (p:=⟨gb384,_,none⟩) NB382_384.out _).trans (((cell_far (p:=⟨gb384,_,none⟩) NB382_384.out _).trans (((cell_far (p:=⟨gb384,_,none⟩) NB382_384.out _).trans (hHeld.2.2.1)))))))),((cell_far (p:=⟨gb384,_,none⟩) NB382_384.out _).trans (((cell_far (p:=⟨gb384,_,none⟩) NB382_384.out _).trans (((cell_far (p:=⟨gb384,_,none⟩) NB382_384.out _).trans (((cell_far (p:=⟨gb384,_,none⟩) NB382_384.out _).trans (hHeld.2.2.2))))))))⟩ (fun hHeld=>?_);clear hK K;refine one_ (i:=5) (N:=none) (mB_ 6 63) rfl rfl (by kernel_rfl) (by decide) (fun K hK=>?_);have hs16 : w11.cell? ⟨gb385,0,none⟩ = some (.int .i8 0):=(kC_ BK385.out 0).trans rfl;have hfs16:=kF_ BK385.out 0;have hns16_0:=NB382_385.out;have hns16_1:=NB383_385.out;have hns16_2:=NB384_385.out;have hms16_0:=NB385_382.out;have hms16_1:=NB385_383.out;have hms16_2:=NB385_384.out;have hs17 : w11.cell? ⟨gb385,1,none⟩ = some (.int .i8 0):=(kC_ BK385.out 1).trans rfl;have hfs17:=kF_ BK385.out 1;have hns17_0:=NB382_385.out;have hns17_1:=NB383_385.out;have hns17_2:=NB384_385.out;have hms17_0:=NB385_382.out;have hms17_1:=NB385_383.out;have hms17_2:=NB385_384.out;have hs18 : w11.cell? ⟨gb385,2,none⟩ = some (.int .i8 0):=(kC_ BK385.out 2).trans rfl;have hfs18:=kF_ BK385.out 2;have hns18_0:=NB382_385.out;have hns18_1:=NB383_385.out;have hns18_2:=NB384_385.out;have hms18_0:=NB385_382.out;have hms18_1:=NB385_383.out;have hms18_2:=NB385_384.out;have hs19 : w11.cell? ⟨gb385,3,none⟩ = some (.int .i8 0):=(kC_ BK385.out 3).trans rfl;have hfs19:=kF_ BK385.out 3;have hns19_0:=NB382_385.out;have hns19_1:=NB383_385.out;have hns19_2:=NB384_385.out;have hms19_0:=NB385_382.out;have hms19_1:=NB385_383.out;have hms19_2:=NB385_384.out;refine skip_ (w1:=?_) (by rfl) rfl ?_ ?_;rotate_left
   ·
    go_simp
    rfl
   refine hK.out _ _ ⟨((cell_far (p:=⟨gb385,_,none⟩) NB382_385.out _).trans (((cell_far (p:=⟨gb385,_,none⟩) NB382_385.out _).trans (((cell_far (p:=⟨gb385,_,none⟩) NB382_385.out _).trans (((cell_far (p:=⟨gb385,_,none⟩) NB382_385.out _).trans (hHeld.1)))))))),((cell_far (p:=⟨gb385,_,none⟩) NB382_385.out _).trans (((cell_far (p:=⟨gb385,_,none⟩) NB382_385.out _).trans (((cell_far (p:=⟨gb385,_,none⟩) NB382_385.out _).trans (((cell_far (p:=⟨gb385,_,none⟩) NB382_385.out _).trans (hHeld.2.1)))))))),((cell_far (p:=⟨gb385,_,none⟩) NB382_385.out _).trans (((cell_far (p:=⟨gb385,_,none⟩) NB382_385.out _).trans (((cell_far (p:=⟨gb385,_,none⟩) NB382_385.out _).trans (((cell_far (p:=⟨gb385,_,none⟩) NB382_385.out _).trans (hHeld.2.2.1)))))))),((cell_far (p:=⟨gb385,_,none⟩) NB382_385.out _).trans (((cell_far (p:=⟨gb385,_,none⟩) NB382_385.out _).trans (((cell_far (p:=⟨gb385,_,none⟩) NB382_385.out _).trans (((cell_far (p:=⟨gb385,_,none⟩) NB382_385.out _).trans (hHeld.2.2.2))))))))⟩ (fun hHeld=>?_);clear hK K;refine done_ (by kernel_rfl) ?_
   try go_wp2
   have n0_ : Aside0 (((((((((w11.setCell ⟨gb384,0,none⟩ (.int .i8 a0_0)).setCell ⟨gb384,1,none⟩ (.int .i8 a0_1)).setCell ⟨gb384,2,none⟩ (.int .i8 a0_2)).setCell ⟨gb384,3,none⟩ (.int .i8 a0_3)).setCell ⟨gb385,0,none⟩ (.int .i8 a0_0)).setCell ⟨gb385,1,none⟩ (.int .i8 a0_1)).setCell ⟨gb385,2,none⟩ (.int .i8 a0_2)).setCell ⟨gb385,3,none⟩ (.int .i8 a0_3)).heap[gb382]? = some (.cells #[.int .i8 a0_0,.int .i8 a0_1,.int .i8 a0_2,.int .i8 a0_3] 38 (0,0))):=⟨by (with_reducible repeat (first|apply kN_|apply kD_|apply kA_));refine blk_far ?_ NB382_385.out _;(with_reducible repeat (first|apply kN_|apply kD_|apply kA_));refine blk_far ?_ NB382_385.out _;(with_reducible repeat (first|apply kN_|apply kD_|apply kA_));refine blk_far ?_ NB382_385.out _;(with_reducible repeat (first|apply kN_|apply kD_|apply kA_));refine blk_far ?_ NB382_385.out _;(with_reducible repeat (first|apply kN_|apply kD_|apply kA_));refine blk_far ?_ NB382_384.out _;(with_reducible repeat (first|apply kN_|apply kD_|apply kA_));refine blk_far ?_ NB382_384.out _;(with_reducible repeat (first|apply kN_|apply kD_|apply kA_));refine blk_far ?_ NB382_384.out _;(with_reducible repeat (first|apply kN_|apply kD_|apply kA_));refine blk_far ?_ NB382_384.out _;(with_reducible repeat (first|apply kN_|apply kD_|apply kA_));exact BK382.out⟩
   have n1_ : Aside0 (((((((((w11.setCell ⟨gb384,0,none⟩ (.int .i8 a0_0)).setCell ⟨gb384,1,none⟩ (.int .i8 a0_1)).setCell ⟨gb384,2,none⟩ (.int .i8 a0_2)).setCell ⟨gb384,3,none⟩ (.int .i8 a0_3)).setCell ⟨gb385,0,none⟩ (.int .i8 a0_0)).setCell ⟨gb385,1,none⟩ (.int .i8 a0_1)).setCell ⟨gb385,2,none⟩ (.int .i8 a0_2)).setCell ⟨gb385,3,none⟩ (.int .i8 a0_3)).heap[gb383]? = some (.cells #[.int .i8 a1_0,.int .i8 a1_1,.int .i8 a1_2,.int .i8 a1_3] 38 (0,0))):=⟨by (with_reducible repeat (first|apply kN_|apply kD_|apply kA_));refine blk_far ?_ NB383_385.out _;(with_reducible repeat (first|apply kN_|apply kD_|apply kA_));refine blk_far ?_ NB383_385.out _;(with_reducible repeat (first|apply kN_|apply kD_|apply kA_));refine blk_far ?_ NB383_385.out _;(with_reducible repeat (first|apply kN_|apply kD_|apply kA_));refine blk_far ?_ NB383_385.out _;(with_reducible repeat (first|apply kN_|apply kD_|apply kA_));refine blk_far ?_ NB383_384.out _;(with_reducible repeat (first|apply kN_|apply kD_|apply kA_));refine blk_far ?_ NB383_384.out _;(with_reducible repeat (first|apply kN_|apply kD_|apply kA_));refine blk_far ?_ NB383_384.out _;(with_reducible repeat (first|apply kN_|apply kD_|apply kA_));refine blk_far ?_ NB383_384.out _;(with_reducible repeat (first|apply kN_|apply kD_|apply kA_));exact BK383.out⟩
   have n2_ : Aside0 (((((((((w11.setCell ⟨gb384,0,none⟩ (.int .i8 a0_0)).setCell ⟨gb384,1,none⟩ (.int .i8 a0_1)).setCell ⟨gb384,2,none⟩ (.int .i8 a0_2)).setCell ⟨gb384,3,none⟩ (.int .i8 a0_3)).setCell ⟨gb385,0,none⟩ (.int .i8 a0_0)).setCell ⟨gb385,1,none⟩ (.int .i8 a0_1)).setCell ⟨gb385,2,none⟩ (.int .i8 a0_2)).setCell ⟨gb385,3,none⟩ (.int .i8 a0_3)).heap[gb384]? = some (.cells #[.int .i8 a0_0,.int .i8 a0_1,.int .i8 a0_2,.int .i8 a0_3] 38 (0,0))):=⟨by (with_reducible repeat (first|apply kN_|apply kD_|apply kA_));refine blk_far ?_ NB384_385.out _;(with_reducible repeat (first|apply kN_|apply kD_|apply kA_));refine blk_far ?_ NB384_385.out _;(with_reducible repeat (first|apply kN_|apply kD_|apply kA_));refine blk_far ?_ NB384_385.out _;(with_reducible repeat (first|apply kN_|apply kD_|apply kA_));refine blk_far ?_ NB384_385.out _;(with_reducible repeat (first|apply kN_|apply kD_|apply kA_));refine blk_put (cs:=#[.int .i8 a0_0,.int .i8 a0_1,.int .i8 a0_2,.int .i8 0]) ?_ 3 _ rfl;(with_reducible repeat (first|apply kN_|apply kD_|apply kA_));refine blk_put (cs:=#[.int .i8 a0_0,.int .i8 a0_1,.int .i8 0,.int .i8 0]) ?_ 2 _ rfl;(with_reducible repeat (first|apply kN_|apply kD_|apply kA_));refine blk_put (cs:=#[.int .i8 a0_0,.int .i8 0,.int .i8 0,.int .i8 0]) ?_ 1 _ rfl;(with_reducible repeat (first|apply kN_|apply kD_|apply kA_));refine blk_put (cs:=#[.int .i8 0,.int .i8 0,.int .i8 0,.int .i8 0]) ?_ 0 _ rfl;(with_reducible repeat (first|apply kN_|apply kD_|apply kA_));exact BK384.out⟩
   have n3_ : Aside0 (((((((((w11.setCell ⟨gb384,0,none⟩ (.int .i8 a0_0)).setCell ⟨gb384,1,none⟩ (.int .i8 a0_1)).setCell ⟨gb384,2,none⟩ (.int .i8 a0_2)).setCell ⟨gb384,3,none⟩ (.int .i8 a0_3)).setCell ⟨gb385,0,none⟩ (.int .i8 a0_0)).setCell ⟨gb385,1,none⟩ (.int .i8 a0_1)).setCell ⟨gb385,2,none⟩ (.int .i8 a0_2)).setCell ⟨gb385,3,none⟩ (.int .i8 a0_3)).heap[gb385]? = some (.cells #[.int .i8 a0_0,.int .i8 a0_1,.int .i8 a0_2,.int .i8 a0_3] 38 (0,0))):=⟨by (with_reducible repeat (first|apply kN_|apply kD_|apply kA_));refine blk_put (cs:=#[.int .i8 a0_0,.int .i8 a0_1,.int .i8 a0_2,.int .i8 0]) ?_ 3 _ rfl;(with_reducible repeat (first|apply kN_|apply kD_|apply kA_));refine blk_put (cs:=#[.int .i8 a0_0,.int .i8 a0_1,.int .i8 0,.int .i8 0]) ?_ 2 _ rfl;(with_reducible repeat (first|apply kN_|apply kD_|apply kA_));refine blk_put (cs:=#[.int .i8 a0_0,.int .i8 0,.int .i8 0,.int .i8 0]) ?_ 1 _ rfl;(with_reducible repeat (first|apply kN_|apply kD_|apply kA_));refine blk_put (cs:=#[.int .i8 0,.int .i8 0,.int .i8 0,.int .i8 0]) ?_ 0 _ rfl;(with_reducible repeat (first|apply kN_|apply kD_|apply kA_));refine blk_far ?_ NB385_384.out _;(with_reducible repeat (first|apply kN_|apply kD_|apply kA_));refine blk_far ?_ NB385_384.out _;(with_reducible repeat (first|apply kN_|apply kD_|apply kA_));refine blk_far ?_ NB385_384.out _;(with_reducible repeat (first|apply kN_|apply kD_|apply kA_));refine blk_far ?_ NB385_384.out _;(with_reducible repeat (first|apply kN_|apply kD_|apply kA_));exact BK385.out⟩
   have n4_ : Aside0 (Below w.heap.size w ((((((((w11.setCell ⟨gb384,0,none⟩ (.int .i8 a0_0)).setCell ⟨gb384,1,none⟩ (.int .i8 a0_1)).setCell ⟨gb384,2,none⟩ (.int .i8 a0_2)).setCell ⟨gb384,3,none⟩ (.int .i8 a0_3)).setCell ⟨gb385,0,none⟩ (.int .i8 a0_0)).setCell ⟨gb385,1,none⟩ (.int .i8 a0_1)).setCell ⟨gb385,2,none⟩ (.int .i8 a0_2)).setCell ⟨gb385,3,none⟩ (.int .i8 a0_3))):=⟨by repeat (first|(with_reducible first|exact HB.out|apply bA_|apply bN_|apply bD_|refine bS_ ?_ GE382.out|refine bS_ ?_ GE383.out|refine bS_ ?_ GE384.out|refine bS_ ?_ GE385.out)|exact HB.out)⟩
   (try clear BK382);(try clear BK383);(try clear BK384);(try clear BK385);(try clear HB);generalize ((((((((w11.setCell ⟨gb384,0,none⟩ (.int .i8 a0_0)).setCell ⟨gb384,1,none⟩ (.int .i8 a0_1)).setCell ⟨gb384,2,none⟩ (.int .i8 a0_2)).setCell ⟨gb384,3,none⟩ (.int .i8 a0_3)).setCell ⟨gb385,0,none⟩ (.int .i8 a0_0)).setCell ⟨gb385,1,none⟩ (.int .i8 a0_1)).setCell ⟨gb385,2,none⟩ (.int .i8 a0_2)).setCell ⟨gb385,3,none⟩ (.int .i8 a0_3)) = w20 at n0_ n1_ n2_ n3_ n4_ ⊢;have BK382:=n0_;have BK383:=n1_;have BK384:=n2_;have BK385:=n3_;have HB:=n4_;clear n0_ n1_ n2_ n3_ n4_;have n0_:=am_ (kD_ BK382.out);have n1_:=am_ (kD_ BK383.out);have n2_:=am_ (kD_ BK384.out);have n3_:=am_ (kD_ BK385.out);have n4_:=am_ (bD_ HB.out);clear BK382;clear BK383;clear BK384;clear BK385;clear HB;have BK382:=n0_;have BK383:=n1_;have BK384:=n2_;have BK385:=n3_;have HB:=n4_;clear n0_ n1_ n2_ n3_ n4_;refine start_ (n:=10) (S:=fun w'=>w'.cell? ⟨gb382,0,none⟩ = some (.int .i8 a0_0) ∧ w'.cell? ⟨gb382,1,none⟩ = some (.int .i8 a0_1) ∧ w'.cell? ⟨gb382,2,none⟩ = some (.int .i8 a0_2) ∧ w'.cell? ⟨gb382,3,none⟩ = some (.int .i8 a0_3)) (ds:=[]) (mB_ 10 0) (by kernel_rfl) rfl rfl ⟨(kC_ BK382.out 0).trans rfl,(kC_ BK382.out 1).trans rfl,(kC_ BK382.out 2).trans rfl,(kC_ BK382.out 3).trans rfl⟩ (fun hHeld=>?_);refine with_tabW impl_areBeside.tab2 impl_areBeside.bits2 (fun HT_ HW_=>?_);generalize w20.drew = w21 at BK382 BK383 BK384 BK385 HB hHeld ⊢;refine pure_ (i:=0) (N:=some 9) (v:=?_) (a':=?_) (mB_ 10 1) rfl rfl (any_of HT_.out (by kernel_rfl)) (fun _ _ _ h=>h) (Or.inl ⟨by rfl,?_⟩) ?_ ?_;rotate_left
   ·
    intro w'
    go_simp
    with_reducible rfl
   rotate_left
   ·
    simp only [Act.put,z1_,z2_,z3_,i64_w,i32_w]
    rfl
   refine pure_ (i:=3) (N:=some 12) (v:=?_) (a':=?_) (mB_ 10 9) rfl rfl (any_of HT_.out (by kernel_rfl)) (fun _ _ _ h=>h) (Or.inl ⟨by rfl,?_⟩) ?_ ?_;rotate_left
   ·
    intro w'
    go_simp
    with_reducible rfl
   rotate_left
   ·
    simp only [Act.put,z1_,z2_,z3_,i64_w,i32_w]
    rfl
   refine take_ (i:=1) (N:=some 10) (v:=?_) (a':=?_) (mB_ 10 11) rfl rfl (take_ofW HT_.out HW_.out (by kernel_rfl)) (fun _ _ _ h=>h) (Or.inl ⟨by rfl,?_⟩) hHeld ?_ ?_;rotate_left
   ·
    rintro w' ⟨s0,s1,s2,s3⟩
    go_simp
    with_reducible rfl
   rotate_left
   ·
    simp only [Act.put,z1_,z2_,z3_,i64_w,i32_w]
    rfl
   refine pure_ (i:=2) (N:=some 11) (v:=?_) (a':=?_) (mB_ 10 15) rfl rfl (any_of HT_.out (by kernel_rfl)) (fun _ _ _ h=>h) (Or.inl ⟨by rfl,?_⟩) ?_ ?_;rotate_left
   ·
    intro w'
    go_simp
    with_reducible rfl
   rotate_left
   ·
    simp only [Act.put,z1_,z2_,z3_,i64_w,i32_w]
    rfl
   refine pure_ (i:=6) (N:=some 15) (v:=?_) (a':=?_) (mB_ 10 79) rfl rfl (any_of HT_.out (by kernel_rfl)) (fun _ _ _ h=>h) (Or.inl ⟨by rfl,?_⟩) ?_ ?_;rotate_left
   ·
    intro w'
    go_simp
    with_reducible rfl
   rotate_left
   ·
    simp only [Act.put,z1_,z2_,z3_,i64_w,i32_w]
    rfl
   refine take_ (i:=4) (N:=some 13) (v:=?_) (a':=?_) (mB_ 10 95) rfl rfl (take_ofW HT_.out HW_.out (by kernel_rfl)) (fun _ _ _ h=>h) (Or.inl ⟨by rfl,?_⟩) hHeld ?_ ?_;rotate_left
   ·
    rintro w' ⟨s0,s1,s2,s3⟩
    go_simp
    with_reducible rfl
   rotate_left
   ·
    simp only [Act.put,z1_,z2_,z3_,i64_w,i32_w]
    rfl
   refine pure_ (i:=5) (N:=some 14) (v:=?_) (a':=?_) (mB_ 10 127) rfl rfl (any_of HT_.out (by kernel_rfl)) (fun _ _ _ h=>h) (Or.inl ⟨by rfl,?_⟩) ?_ ?_;rotate_left
   ·
    intro w'
    go_simp
    with_reducible rfl
   rotate_left
   ·
    simp only [Act.put,z1_,z2_,z3_,i64_w,i32_w]
    rfl
   refine one_ (i:=7) (N:=none) (mB_ 10 255) rfl rfl (one_of HT_.out (by kernel_rfl)) (by decide) (fun K hK=>?_);have hs22 : w21.cell? ⟨gb384,0,none⟩ = some (.int .i8 a0_0):=(kC_ BK384.out 0).trans rfl;have hfs22:=kF_ BK384.out 0;have hns22_0:=NB382_384.out;have hns22_1:=NB383_384.out;have hns22_3:=NB385_384.out;have hms22_0:=NB384_382.out;have hms22_1:=NB384_383.out;have hms22_3:=NB384_385.out;refine skip_ (w1:=?_) (by rfl) rfl ?_ ?_;rotate_left
   ·
    go_simp
    rfl
   refine hK.out _ _ ⟨((cell_far (p:=⟨gb384,_,none⟩) NB382_384.out _).trans (hHeld.1)),((cell_far (p:=⟨gb384,_,none⟩) NB382_384.out _).trans (hHeld.2.1)),((cell_far (p:=⟨gb384,_,none⟩) NB382_384.out _).trans (hHeld.2.2.1)),((cell_far (p:=⟨gb384,_,none⟩) NB382_384.out _).trans (hHeld.2.2.2))⟩ (fun hHeld=>?_);clear hK K;refine pure_ (i:=8) (N:=some 16) (v:=?_) (a':=?_) (mB_ 10 511) rfl rfl (any_of HT_.out (by kernel_rfl)) (fun _ _ _ h=>h) (Or.inl ⟨by rfl,?_⟩) ?_ ?_;rotate_left
   ·
    intro w'
    go_simp
    with_reducible rfl
   rotate_left
   ·
    simp only [Act.put,z1_,z2_,z3_,i64_w,i32_w]
    rfl
   refine one_ (i:=9) (N:=none) (mB_ 10 1023) rfl rfl (one_of HT_.out (by kernel_rfl)) (by decide) (fun K hK=>?_);have hs23 : w21.cell? ⟨gb384,2,none⟩ = some (.int .i8 a0_2):=(kC_ BK384.out 2).trans rfl;have hfs23:=kF_ BK384.out 2;have hns23_0:=NB382_384.out;have hns23_1:=NB383_384.out;have hns23_3:=NB385_384.out;have hms23_0:=NB384_382.out;have hms23_1:=NB384_383.out;have hms23_3:=NB384_385.out;refine skip_ (w1:=?_) (by rfl) rfl ?_ ?_;rotate_left
   ·
    go_simp
    rfl
   refine hK.out _ _ ⟨((cell_far (p:=⟨gb384,_,none⟩) NB382_384.out _).trans (hHeld.1)),((cell_far (p:=⟨gb384,_,none⟩) NB382_384.out _).trans (hHeld.2.1)),((cell_far (p:=⟨gb384,_,none⟩) NB382_384.out _).trans (hHeld.2.2.1)),((cell_far (p:=⟨gb384,_,none⟩) NB382_384.out _).trans (hHeld.2.2.2))⟩ (fun hHeld=>?_);clear hK K;refine done_ (done_of HT_.out (by kernel_rfl)) ?_
   try go_wp2
   have n0_ : Aside0 (((w21.setCell ⟨gb384,0,none⟩ (.int .i8 (IntKind.i8.wrap (a0_0 - 1)))).setCell ⟨gb384,2,none⟩ (.int .i8 (IntKind.i8.wrap (a0_2 + 2)))).heap[gb382]? = some (.cells #[.int .i8 a0_0,.int .i8 a0_1,.int .i8 a0_2,.int .i8 a0_3] 38 (0,0))):=⟨by (with_reducible repeat (first|apply kN_|apply kD_|apply kA_));refine blk_far ?_ NB382_384.out _;(with_reducible repeat (first|apply kN_|apply kD_|apply kA_));refine blk_far ?_ NB382_384.out _;(with_reducible repeat (first|apply kN_|apply kD_|apply kA_));exact BK382.out⟩
   have n1_ : Aside0 (((w21.setCell ⟨gb384,0,none⟩ (.int .i8 (IntKind.i8.wrap (a0_0 - 1)))).setCell ⟨gb384,2,none⟩ (.int .i8 (IntKind.i8.wrap (a0_2 + 2)))).heap[gb383]? = some (.cells #[.int .i8 a1_0,.int .i8 a1_1,.int .i8 a1_2,.int .i8 a1_3] 38 (0,0))):=⟨by (with_reducible repeat (first|apply kN_|apply kD_|apply kA_));refine blk_far ?_ NB383_384.out _;(with_reducible repeat (first|apply kN_|apply kD_|apply kA_));refine blk_far ?_ NB383_384.out _;(with_reducible repeat (first|apply kN_|apply kD_|apply kA_));exact BK383.out⟩
   have n2_ : Aside0 (((w21.setCell ⟨gb384,0,none⟩ (.int .i8 (IntKind.i8.wrap (a0_0 - 1)))).setCell ⟨gb384,2,none⟩ (.int .i8 (IntKind.i8.wrap (a0_2 + 2)))).heap[gb384]? = some (.cells #[.int .i8 (IntKind.i8.wrap (a0_0 - 1)),.int .i8 a0_1,.int .i8 (IntKind.i8.wrap (a0_2 + 2)),.int .i8 a0_3] 38 (0,0))):=⟨by (with_reducible repeat (first|apply kN_|apply kD_|apply kA_));refine blk_put (cs:=#[.int .i8 (IntKind.i8.wrap (a0_0 - 1)),.int .i8 a0_1,.int .i8 a0_2,.int .i8 a0_3]) ?_ 2 _ rfl;(with_reducible repeat (first|apply kN_|apply kD_|apply kA_));refine blk_put (cs:=#[.int .i8 a0_0,.int .i8 a0_1,.int .i8 a0_2,.int .i8 a0_3]) ?_ 0 _ rfl;(with_reducible repeat (first|apply kN_|apply kD_|apply kA_));exact BK384.out⟩
   have n3_ : Aside0 (((w21.setCell ⟨gb384,0,none⟩ (.int .i8 (IntKind.i8.wrap (a0_0 - 1)))).setCell ⟨gb384,2,none⟩ (.int .i8 (IntKind.i8.wrap (a0_2 + 2)))).heap[gb385]? = some (.cells #[.int .i8 a0_0,.int .i8 a0_1,.int .i8 a0_2,.int .i8 a0_3] 38 (0,0))):=⟨by (with_reducible repeat (first|apply kN_|apply kD_|apply kA_));refine blk_far ?_ NB385_384.out _;(with_reducible repeat (first|apply kN_|apply kD_|apply kA_));refine blk_far ?_ NB385_384.out _;(with_reducible repeat (first|apply kN_|apply kD_|apply kA_));exact BK385.out⟩
   have n4_ : Aside0 (Below w.heap.size w ((w21.setCell ⟨gb384,0,none⟩ (.int .i8 (IntKind.i8.wrap (a0_0 - 1)))).setCell ⟨gb384,2,none⟩ (.int .i8 (IntKind.i8.wrap (a0_2 + 2))))):=⟨by repeat (first|(with_reducible first|exact HB.out|apply bA_|apply bN_|apply bD_|refine bS_ ?_ GE382.out|refine bS_ ?_ GE383.out|refine bS_ ?_ GE384.out|refine bS_ ?_ GE385.out)|exact HB.out)⟩
   (try clear BK382);(try clear BK383);(try clear BK384);(try clear BK385);(try clear HB);generalize ((w21.setCell ⟨gb384,0,none⟩ (.int .i8 (IntKind.i8.wrap (a0_0 - 1)))).setCell ⟨gb384,2,none⟩ (.int .i8 (IntKind.i8.wrap (a0_2 + 2)))) = w24 at n0_ n1_ n2_ n3_ n4_ ⊢;have BK382:=n0_;have BK383:=n1_;have BK384:=n2_;have BK385:=n3_;have HB:=n4_;clear n0_ n1_ n2_ n3_ n4_;have n0_:=am_ (kD_ BK382.out);have n1_:=am_ (kD_ BK383.out);have n2_:=am_ (kD_ BK384.out);have n3_:=am_ (kD_ BK385.out);have n4_:=am_ (bD_ HB.out);clear BK382;clear BK383;clear BK384;clear BK385;clear HB;have BK382:=n0_;have BK383:=n1_;have BK384:=n2_;have BK385:=n3_;have HB:=n4_;clear n0_ n1_ n2_ n3_ n4_;refine start_ (n:=10) (S:=fun w'=>w'.cell? ⟨gb382,0,none⟩ = some (.int .i8 a0_0) ∧ w'.cell? ⟨gb382,1,none⟩ = some (.int .i8 a0_1) ∧ w'.cell? ⟨gb382,2,none⟩ = some (.int .i8 a0_2) ∧ w'.cell? ⟨gb382,3,none⟩ = some (.int .i8 a0_3)) (ds:=[]) (mB_ 10 0) (by kernel_rfl) rfl rfl ⟨(kC_ BK382.out 0).trans rfl,(kC_ BK382.out 1).trans rfl,(kC_ BK382.out 2).trans rfl,(kC_ BK382.out 3).trans rfl⟩ (fun hHeld=>?_);refine with_tabW impl_areBeside.tab3 impl_areBeside.bits3 (fun HT_ HW_=>?_);generalize w24.drew = w25 at BK382 BK383 BK384 BK385 HB hHeld ⊢;refine pure_ (i:=0) (N:=some 17) (v:=?_) (a':=?_) (mB_ 10 1) rfl rfl (any_of HT_.out (by kernel_rfl)) (fun _ _ _ h=>h) (Or.inl ⟨by rfl,?_⟩) ?_ ?_;rotate_left
   ·
    intro w'
    go_simp
    with_reducible rfl
   rotate_left
   ·
    simp only [Act.put,z1_,z2_,z3_,i64_w,i32_w]
    rfl
   refine pure_ (i:=3) (N:=some 20) (v:=?_) (a':=?_) (mB_ 10 9) rfl rfl (any_of HT_.out (by kernel_rfl)) (fun _ _ _ h=>h) (Or.inl ⟨by rfl,?_⟩) ?_ ?_;rotate_left
   ·
    intro w'
    go_simp
    with_reducible rfl
   rotate_left
   ·
    simp only [Act.put,z1_,z2_,z3_,i64_w,i32_w]
    rfl
   refine take_ (i:=1) (N:=some 18) (v:=?_) (a':=?_) (mB_ 10 11) rfl rfl (take_ofW HT_.out HW_.out (by kernel_rfl)) (fun _ _ _ h=>h) (Or.inl ⟨by rfl,?_⟩) hHeld ?_ ?_;rotate_left
   ·
    rintro w' ⟨s0,s1,s2,s3⟩
    go_simp
    with_reducible rfl
   rotate_left
   ·
    simp only [Act.put,z1_,z2_,z3_,i64_w,i32_w]
    rfl
   refine pure_ (i:=2) (N:=some 19) (v:=?_) (a':=?_) (mB_ 10 15) rfl rfl (any_of HT_.out (by kernel_rfl)) (fun _ _ _ h=>h) (Or.inl ⟨by rfl,?_⟩) ?_ ?_;rotate_left
   ·
    intro w'
    go_simp
    with_reducible rfl
   rotate_left
   ·
    simp only [Act.put,z1_,z2_,z3_,i64_w,i32_w]
    rfl
   refine pure_ (i:=6) (N:=some 23) (v:=?_) (a':=?_) (mB_ 10 79) rfl rfl (any_of HT_.out (by kernel_rfl)) (fun _ _ _ h=>h) (Or.inl ⟨by rfl,?_⟩) ?_ ?_;rotate_left
   ·
    intro w'
    go_simp
    with_reducible rfl
   rotate_left
   ·
    simp only [Act.put,z1_,z2_,z3_,i64_w,i32_w]
    rfl
   refine take_ (i:=4) (N:=some 21) (v:=?_) (a':=?_) (mB_ 10 95) rfl rfl (take_ofW HT_.out HW_.out (by kernel_rfl)) (fun _ _ _ h=>h) (Or.inl ⟨by rfl,?_⟩) hHeld ?_ ?_;rotate_left
   ·
    rintro w' ⟨s0,s1,s2,s3⟩
    go_simp
    with_reducible rfl
   rotate_left
   ·
    simp only [Act.put,z1_,z2_,z3_,i64_w,i32_w]
    rfl
   refine pure_ (i:=5) (N:=some 22) (v:=?_) (a':=?_) (mB_ 10 127) rfl rfl (any_of HT_.out (by kernel_rfl)) (fun _ _ _ h=>h) (Or.inl ⟨by rfl,?_⟩) ?_ ?_;rotate_left
   ·
    intro w'
    go_simp
    with_reducible rfl
   rotate_left
   ·
    simp only [Act.put,z1_,z2_,z3_,i64_w,i32_w]
    rfl
   refine one_ (i:=7) (N:=none) (mB_ 10 255) rfl rfl (one_of HT_.out (by kernel_rfl)) (by decide) (fun K hK=>?_);have hs26 : w25.cell? ⟨gb385,1,none⟩ = some (.int .i8 a0_1):=(kC_ BK385.out 1).trans rfl;have hfs26:=kF_ BK385.out 1;have hns26_0:=NB382_385.out;have hns26_1:=NB383_385.out;have hns26_2:=NB384_385.out;have hms26_0:=NB385_382.out;have hms26_1:=NB385_383.out;have hms26_2:=NB385_384.out;refine skip_ (w1:=?_) (by rfl) rfl ?_ ?_;rotate_left
   ·
    go_simp
    rfl
   refine hK.out _ _ ⟨((cell_far (p:=⟨gb385,_,none⟩) NB382_385.out _).trans (hHeld.1)),((cell_far (p:=⟨gb385,_,none⟩) NB382_385.out _).trans (hHeld.2.1)),((cell_far (p:=⟨gb385,_,none⟩) NB382_385.out _).trans (hHeld.2.2.1)),((cell_far (p:=⟨gb385,_,none⟩) NB382_385.out _).trans (hHeld.2.2.2))⟩ (fun hHeld=>?_);clear hK K;refine pure_ (i:=8) (N:=some 24) (v:=?_) (a':=?_) (mB_ 10 511) rfl rfl (any_of HT_.out (by kernel_rfl)) (fun _ _ _ h=>h) (Or.inl ⟨by rfl,?_⟩) ?_ ?_;rotate_left
   ·
    intro w'
    go_simp
    with_reducible rfl
   rotate_left
   ·
    simp only [Act.put,z1_,z2_,z3_,i64_w,i32_w]
    rfl
   refine one_ (i:=9) (N:=none) (mB_ 10 1023) rfl rfl (one_of HT_.out (by kernel_rfl)) (by decide) (fun K hK=>?_);have hs27 : w25.cell? ⟨gb385,3,none⟩ = some (.int .i8 a0_3):=(kC_ BK385.out 3).trans rfl;have hfs27:=kF_ BK385.out 3;have hns27_0:=NB382_385.out;have hns27_1:=NB383_385.out;have hns27_2:=NB384_385.out;have hms27_0:=NB385_382.out;have hms27_1:=NB385_383.out;have hms27_2:=NB385_384.out;refine skip_ (w1:=?_) (by rfl) rfl ?_ ?_;rotate_left
   ·
    go_simp
    rfl
   refine hK.out _ _ ⟨((cell_far (p:=⟨gb385,_,none⟩) NB382_385.out _).trans (hHeld.1)),((cell_far (p:=⟨gb385,_,none⟩) NB382_385.out _).trans (hHeld.2.1)),((cell_far (p:=⟨gb385,_,none⟩) NB382_385.out _).trans (hHeld.2.2.1)),((cell_far (p:=⟨gb385,_,none⟩) NB382_385.out _).trans (hHeld.2.2.2))⟩ (fun hHeld=>?_);clear hK K;refine done_ (done_of HT_.out (by kernel_rfl)) ?_;have hnb28:=NB382_383.out;have hnc28:=NB383_382.out;have hnb29:=NB382_384.out;have hnc29:=NB384_382.out;have hnb30:=NB382_385.out;have hnc30:=NB385_382.out;have hcz31_0 : w25.cell? ⟨gb382,0,none⟩ = some (.int .i8 a0_0):=(kC_ BK382.out 0).trans rfl;have hcz31_1 : w25.cell? ⟨gb382,1,none⟩ = some (.int .i8 a0_1):=(kC_ BK382.out 1).trans rfl;have hcz31_2 : w25.cell? ⟨gb382,2,none⟩ = some (.int .i8 a0_2):=(kC_ BK382.out 2).trans rfl;have hcz31_3 : w25.cell? ⟨gb382,3,none⟩ = some (.int .i8 a0_3):=(kC_ BK382.out 3).trans rfl;have hfz31_0:=kF_ BK382.out 0;have hfz31_1:=kF_ BK382.out 1;have hfz31_2:=kF_ BK382.out 2;have hfz31_3:=kF_ BK382.out 3;have hnb32:=NB383_384.out;have hnc32:=NB384_383.out;have hnb33:=NB383_385.out;have hnc33:=NB385_383.out;have hcz34_0 : w25.cell? ⟨gb383,0,none⟩ = some (.int .i8 a1_0):=(kC_ BK383.out 0).trans rfl;have hcz34_1 : w25.cell? ⟨gb383,1,none⟩ = some (.int .i8 a1_1):=(kC_ BK383.out 1).trans rfl;have hcz34_2 : w25.cell? ⟨gb383,2,none⟩ = some (.int .i8 a1_2):=(kC_ BK383.out 2).trans rfl;have hcz34_3 : w25.cell? ⟨gb383,3,none⟩ = some (.int .i8 a1_3):=(kC_ BK383.out 3).trans rfl;have hfz34_0:=kF_ BK383.out 0;have hfz34_1:=kF_ BK383.out 1;have hfz34_2:=kF_ BK383.out 2;have hfz34_3:=kF_ BK383.out 3;have hnb35:=NB384_385.out;have hnc35:=NB385_384.out;have hcz36_0 : w25.cell? ⟨gb384,0,none⟩ = some (.int .i8 (IntKind.i8.wrap (a0_0 - 1))):=(kC_ BK384.out 0).trans rfl;have hcz36_1 : w25.cell? ⟨gb384,1,none⟩ = some (.int .i8 a0_1):=(kC_ BK384.out 1).trans rfl;have hcz36_2 : w25.cell? ⟨gb384,2,none⟩ = some (.int .i8 (IntKind.i8.wrap (a0_2 + 2))):=(kC_ BK384.out 2).trans rfl;have hcz36_3 : w25.cell? ⟨gb384,3,none⟩ = some (.int .i8 a0_3):=(kC_ BK384.out 3).trans rfl;have hfz36_0:=kF_ BK384.out 0;have hfz36_1:=kF_ BK384.out 1;have hfz36_2:=kF_ BK384.out 2;have hfz36_3:=kF_ BK384.out 3
   try go_wp2_with (first|(go_at_call 46;(with_reducible refine (impl_Slab_meets.calls (IntKind.i8.wrap (a0_0 - 1)) a0_1 (IntKind.i8.wrap (a0_2 + 2)) a0_3 a1_0 a1_1 a1_2 a1_3 true _ A4.out).mono ?_);rintro e w37 ⟨rfl,hb⟩;have n0_:=am_ (blk_below (g:=gb382) (o:=.cells #[.int .i8 a0_0,.int .i8 a0_1,.int .i8 a0_2,.int .i8 a0_3] 38 (0,0)) (by (with_reducible repeat (first|apply kN_|apply kD_|apply kA_));refine blk_far ?_ NB382_385.out _;(with_reducible repeat (first|apply kN_|apply kD_|apply kA_));refine blk_far ?_ NB382_385.out _;(with_reducible repeat (first|apply kN_|apply kD_|apply kA_));exact BK382.out) hb);have n1_:=am_ (blk_below (g:=gb383) (o:=.cells #[.int .i8 a1_0,.int .i8 a1_1,.int .i8 a1_2,.int .i8 a1_3] 38 (0,0)) (by (with_reducible repeat (first|apply kN_|apply kD_|apply kA_));refine blk_far ?_ NB383_385.out _;(with_reducible repeat (first|apply kN_|apply kD_|apply kA_));refine blk_far ?_ NB383_385.out _;(with_reducible repeat (first|apply kN_|apply kD_|apply kA_));exact BK383.out) hb);have n2_:=am_ (blk_below (g:=gb384) (o:=.cells #[.int .i8 (IntKind.i8.wrap (a0_0 - 1)),.int .i8 a0_1,.int .i8 (IntKind.i8.wrap (a0_2 + 2)),.int .i8 a0_3] 38 (0,0)) (by (with_reducible repeat (first|apply kN_|apply kD_|apply kA_));refine blk_far ?_ NB384_385.out _;(with_reducible repeat (first|apply kN_|apply kD_|apply kA_));refine blk_far ?_ NB384_385.out _;(with_reducible repeat (first|apply kN_|apply kD_|apply kA_));exact BK384.out) hb);have n3_:=am_ (blk_below (g:=gb385) (o:=.cells #[.int .i8 a0_0,.int .i8 (IntKind.i8.wrap (a0_1 - 1)),.int .i8 a0_2,.int .i8 (IntKind.i8.wrap (a0_3 + 2))] 38 (0,0)) (by (with_reducible repeat (first|apply kN_|apply kD_|apply kA_));refine blk_put (cs:=#[.int .i8 a0_0,.int .i8 (IntKind.i8.wrap (a0_1 - 1)),.int .i8 a0_2,.int .i8 a0_3]) ?_ 3 _ rfl;(with_reducible repeat (first|apply kN_|apply kD_|apply kA_));refine blk_put (cs:=#[.int .i8 a0_0,.int .i8 a0_1,.int .i8 a0_2,.int .i8 a0_3]) ?_ 1 _ rfl;(with_reducible repeat (first|apply kN_|apply kD_|apply kA_));exact BK385.out) hb);have n4_:=am_ (bT_ (by repeat (first|(with_reducible first|exact HB.out|apply bA_|apply bN_|apply bD_|refine bS_ ?_ GE382.out|refine bS_ ?_ GE383.out|refine bS_ ?_ GE384.out|refine bS_ ?_ GE385.out)|exact HB.out)) hb);clear BK382;clear BK383;clear BK384;clear BK385;clear HB;have BK382:=n0_;have BK383:=n1_;have BK384:=n2_;have BK385:=n3_;have HB:=n4_;clear n0_ n1_ n2_ n3_ n4_;(try clear hb);(try clear hb2);(try clear hk);(try clear hi)))
   go_ret
   exact ⟨by first|rfl|(simp [errW_none,errW_some] <;> rfl)|(simp [*,errW_none,errW_some] <;> rfl),by repeat (first|(with_reducible first|exact HB.out|apply bA_|apply bN_|apply bD_|refine bS_ ?_ GE382.out|refine bS_ ?_ GE383.out|refine bS_ ?_ GE384.out|refine bS_ ?_ GE385.out)|exact HB.out)⟩
  ·
   replace c5:=Bool.eq_false_iff.mpr c5;subst c5;have H1 : ((impl_Slab_meets.f a0_0 (IntKind.i8.wrap (a0_1 - 1)) a0_2 (IntKind.i8.wrap (a0_3 + 2)) a1_0 a1_1 a1_2 a1_3).bind fun t387=>(some t387)) = some r:=by rw [if_neg (show ¬ (false = true) by decide)] at H;exact H
   clear H;have H:=H1;clear H1;replace H:=Option.bind_eq_some_iff.mp H;obtain ⟨t387,A380,H⟩:=H;replace H : (some t387) = some r:=H;have A38:=am_ A380;clear A380;obtain rfl:=Option.some.inj H
   go_enter Try.func91,Try.ntmps91
   try go_wp2_with (first|((with_reducible refine gate_dst (N:=2) rfl ?_);refine box_event ?hg (N:=2) ?hd (cs:=#[.int .i8 a0_0,.int .i8 a0_1,.int .i8 a0_2,.int .i8 a0_3]) (t:=38) ?hr ?_;(case hd=>rfl);(case hg=>rfl);(case hr=>first|(go_simp;done)|(go_simp;rfl));intro gb382 hg w39 hbox hb;have n0_:=am_ (bT_ (by repeat (first|(with_reducible first|exact HB.out|apply bA_|apply bN_|apply bD_)|exact HB.out)) hb);have n1_:=am_ (hbox);have n2_:=am_ ((by rw [hg];exact (below_size (by repeat (first|(with_reducible first|exact HB.out|apply bA_|apply bN_|apply bD_)|exact HB.out))) : w.heap.size≤gb382));have n3_:=n2_;clear HB;have HB:=n0_;have BK382:=n1_;have GW382:=n2_;have GE382:=n3_;clear n0_ n1_ n2_ n3_;clear hb hbox hg)|((with_reducible refine gate_dst (N:=3) rfl ?_);refine box_event ?hg (N:=3) ?hd (cs:=#[.int .i8 a1_0,.int .i8 a1_1,.int .i8 a1_2,.int .i8 a1_3]) (t:=38) ?hr ?_;(case hd=>rfl);(case hg=>rfl);(case hr=>first|(go_simp;done)|(go_simp;rfl));intro gb383 hg w40 hbox hb;have n0_:=am_ (blk_below (g:=gb382) (o:=.cells #[.int .i8 a0_0,.int .i8 a0_1,.int .i8 a0_2,.int .i8 a0_3] 38 (0,0)) (by (with_reducible repeat (first|apply kN_|apply kD_|apply kA_));exact BK382.out) hb);have n1_:=am_ (bT_ (by repeat (first|(with_reducible first|exact HB.out|apply bA_|apply bN_|apply bD_|refine bS_ ?_ GE382.out)|exact HB.out)) hb);have n2_:=am_ (hbox);have n3_:=am_ ((by rw [hg];exact (below_size (by repeat (first|(with_reducible first|exact HB.out|apply bA_|apply bN_|apply bD_|refine bS_ ?_ GE382.out)|exact HB.out))) : w.heap.size≤gb383));have n4_:=n3_;have n5_:=am_ ((by rw [hg];exact Nat.ne_of_lt (blk_lt (g:=gb382) (o:=.cells #[.int .i8 a0_0,.int .i8 a0_1,.int .i8 a0_2,.int .i8 a0_3] 38 (0,0)) (by (with_reducible repeat (first|apply kN_|apply kD_|apply kA_));exact BK382.out)) : gb382 ≠ gb383));have n6_:=am_ ((by rw [hg];exact Nat.ne_of_gt (blk_lt (g:=gb382) (o:=.cells #[.int .i8 a0_0,.int .i8 a0_1,.int .i8 a0_2,.int .i8 a0_3] 38 (0,0)) (by (with_reducible repeat (first|apply kN_|apply kD_|apply kA_));exact BK382.out)) : gb383 ≠ gb382));clear BK382;clear HB;have BK382:=n0_;have HB:=n1_;have BK383:=n2_;have GW383:=n3_;have GE383:=n4_;have NB382_383:=n5_;have NB383_382:=n6_;clear n0_ n1_ n2_ n3_ n4_ n5_ n6_;clear hb hbox hg))
   have n0_:=am_ (kD_ BK382.out);have n1_:=am_ (kD_ BK383.out);have n2_:=am_ (bD_ HB.out);clear BK382;clear BK383;clear HB;have BK382:=n0_;have BK383:=n1_;have HB:=n2_;clear n0_ n1_ n2_;refine start_ (n:=6) (S:=fun w'=>w'.cell? ⟨gb382,0,none⟩ = some (.int .i8 a0_0) ∧ w'.cell? ⟨gb382,1,none⟩ = some (.int .i8 a0_1) ∧ w'.cell? ⟨gb382,2,none⟩ = some (.int .i8 a0_2) ∧ w'.cell? ⟨gb382,3,none⟩ = some (.int .i8 a0_3)) (ds:=[]) (mB_ 6 0) (by kernel_rfl) rfl rfl ⟨(kC_ BK382.out 0).trans rfl,(kC_ BK382.out 1).trans rfl,(kC_ BK382.out 2).trans rfl,(kC_ BK382.out 3).trans rfl⟩ (fun hHeld=>?_);generalize w40.drew = w41 at BK382 BK383 HB hHeld ⊢;refine take_ (i:=0) (N:=some 7) (v:=?_) (a':=?_) (mB_ 6 1) rfl rfl (by kernel_rfl) (fun _ _ _ h=>h) (Or.inl ⟨by rfl,?_⟩) hHeld ?_ ?_;rotate_left
   ·
    rintro w' ⟨s0,s1,s2,s3⟩
    go_simp
    with_reducible rfl
   rotate_left
   ·
    simp only [Act.put,z1_,z2_,z3_,i64_w,i32_w]
    rfl
   refine take_ (i:=1) (N:=some 8) (v:=?_) (a':=?_) (mB_ 6 3) rfl rfl (by kernel_rfl) (fun _ _ _ h=>h) (Or.inl ⟨by rfl,?_⟩) hHeld ?_ ?_;rotate_left
   ·
    rintro w' ⟨s0,s1,s2,s3⟩
    go_simp
    with_reducible rfl
   rotate_left
   ·
    simp only [Act.put,z1_,z2_,z3_,i64_w,i32_w]
    rfl
   refine join_ (σ:=Nat × Nat) 2 (mB_ 6 15) (fun s_=>[(5,.pointer (some ⟨s_.1,0,none⟩)),(6,.pointer (some ⟨s_.2,0,none⟩))]) (fun s_ w'=>(w'.cell? ⟨gb382,0,none⟩ = some (.int .i8 a0_0) ∧ w'.cell? ⟨gb382,1,none⟩ = some (.int .i8 a0_1) ∧ w'.cell? ⟨gb382,2,none⟩ = some (.int .i8 a0_2) ∧ w'.cell? ⟨gb382,3,none⟩ = some (.int .i8 a0_3)) ∧ (w'.heap[gb382]? = some (.cells #[.int .i8 a0_0,.int .i8 a0_1,.int .i8 a0_2,.int .i8 a0_3] 38 (0,0))) ∧ (w'.heap[gb383]? = some (.cells #[.int .i8 a1_0,.int .i8 a1_1,.int .i8 a1_2,.int .i8 a1_3] 38 (0,0))) ∧ (w'.heap[s_.1]? = some (.cells #[.int .i8 0,.int .i8 0,.int .i8 0,.int .i8 0] 38 (0,0))) ∧ (w'.heap[s_.2]? = some (.cells #[.int .i8 0,.int .i8 0,.int .i8 0,.int .i8 0] 38 (0,0))) ∧ (w.heap.size≤s_.1) ∧ (w.heap.size≤s_.1) ∧ (gb382 ≠ s_.1) ∧ (s_.1 ≠ gb382) ∧ (gb383 ≠ s_.1) ∧ (s_.1 ≠ gb383) ∧ (s_.2 ≠ s_.1) ∧ (s_.1 ≠ s_.2) ∧ (w.heap.size≤s_.2) ∧ (w.heap.size≤s_.2) ∧ (gb382 ≠ s_.2) ∧ (s_.2 ≠ gb382) ∧ (gb383 ≠ s_.2) ∧ (s_.2 ≠ gb383) ∧ (Below w.heap.size w w')) ?_ ?_;rotate_left
   ·
    intro hCont;refine two_ (i:=2) (j:=3) (Ni:=some 5) (Nj:=some 6) (mB_ 6 7) (mB_ 6 11) rfl rfl rfl rfl (by kernel_rfl) (by decide) (by decide) (fun K hK=>?_) (fun K hK=>?_)
    ·
     skip
     refine box_step ?hg (N:=5) ?hd (cs:=#[.int .i8 0,.int .i8 0,.int .i8 0,.int .i8 0]) (t:=38) ?hr ?_;(case hd=>rfl);(case hg=>rfl);(case hr=>first|(go_simp;done)|(go_simp;rfl));intro gb384 hg w42 hbox hb;have n0_:=am_ (blk_below (g:=gb382) (o:=.cells #[.int .i8 a0_0,.int .i8 a0_1,.int .i8 a0_2,.int .i8 a0_3] 38 (0,0)) (by (with_reducible repeat (first|apply kN_|apply kD_|apply kA_));exact BK382.out) hb);have n1_:=am_ (blk_below (g:=gb383) (o:=.cells #[.int .i8 a1_0,.int .i8 a1_1,.int .i8 a1_2,.int .i8 a1_3] 38 (0,0)) (by (with_reducible repeat (first|apply kN_|apply kD_|apply kA_));exact BK383.out) hb);have n2_:=am_ (bT_ (by repeat (first|(with_reducible first|exact HB.out|apply bA_|apply bN_|apply bD_|refine bS_ ?_ GE382.out|refine bS_ ?_ GE383.out)|exact HB.out)) hb);have n3_:=am_ (hbox);have n4_:=am_ ((by rw [hg];exact (below_size (by repeat (first|(with_reducible first|exact HB.out|apply bA_|apply bN_|apply bD_|refine bS_ ?_ GE382.out|refine bS_ ?_ GE383.out)|exact HB.out))) : w.heap.size≤gb384));have n5_:=am_ ((by rw [hg];exact (below_size (by repeat (first|(with_reducible first|exact HB.out|apply bA_|apply bN_|apply bD_|refine bS_ ?_ GE382.out|refine bS_ ?_ GE383.out)|exact HB.out))) : w.heap.size≤gb384));have n6_:=am_ ((by rw [hg];exact Nat.ne_of_lt (blk_lt (g:=gb382) (o:=.cells #[.int .i8 a0_0,.int .i8 a0_1,.int .i8 a0_2,.int .i8 a0_3] 38 (0,0)) (by (with_reducible repeat (first|apply kN_|apply kD_|apply kA_));exact BK382.out)) : gb382 ≠ gb384));have n7_:=am_ ((by rw [hg];exact Nat.ne_of_gt (blk_lt (g:=gb382) (o:=.cells #[.int .i8 a0_0,.int .i8 a0_1,.int .i8 a0_2,.int .i8 a0_3] 38 (0,0)) (by (with_reducible repeat (first|apply kN_|apply kD_|apply kA_));exact BK382.out)) : gb384 ≠ gb382));have n8_:=am_ ((by rw [hg];exact Nat.ne_of_lt (blk_lt (g:=gb383) (o:=.cells #[.int .i8 a1_0,.int .i8 a1_1,.int .i8 a1_2,.int .i8 a1_3] 38 (0,0)) (by (with_reducible repeat (first|apply kN_|apply kD_|apply kA_));exact BK383.out)) : gb383 ≠ gb384));have n9_:=am_ ((by rw [hg];exact Nat.ne_of_gt (blk_lt (g:=gb383) (o:=.cells #[.int .i8 a1_0,.int .i8 a1_1,.int .i8 a1_2,.int .i8 a1_3] 38 (0,0)) (by (with_reducible repeat (first|apply kN_|apply kD_|apply kA_));exact BK383.out)) : gb384 ≠ gb383));clear BK382;clear BK383;clear HB;have BK382:=n0_;have BK383:=n1_;have HB:=n2_;have BK384:=n3_;have GW384:=n4_;have GE384:=n5_;have NB382_384:=n6_;have NB384_382:=n7_;have NB383_384:=n8_;have NB384_383:=n9_;clear n0_ n1_ n2_ n3_ n4_ n5_ n6_ n7_ n8_ n9_;clear hb hbox hg;refine hK.out _ _ ⟨(kC_ BK382.out 0).trans rfl,(kC_ BK382.out 1).trans rfl,(kC_ BK382.out 2).trans rfl,(kC_ BK382.out 3).trans rfl⟩ (fun hHeld=>?_);clear hK K;refine norm_ (a':=?_) ?_ ?_;rotate_left
     ·
      show Act.put _ (some 5) _ = _
      simp only [Act.put,z1_,z2_,z3_,i64_w,i32_w]
      rfl
     refine one_ (i:=3) (N:=some 6) (mB_ 6 15) rfl rfl (by kernel_rfl) (by decide) (fun K hK=>?_);refine box_step ?hg (N:=6) ?hd (cs:=#[.int .i8 0,.int .i8 0,.int .i8 0,.int .i8 0]) (t:=38) ?hr ?_;(case hd=>rfl);(case hg=>rfl);(case hr=>first|(go_simp;done)|(go_simp;rfl));intro gb385 hg w43 hbox hb;have n0_:=am_ (blk_below (g:=gb382) (o:=.cells #[.int .i8 a0_0,.int .i8 a0_1,.int .i8 a0_2,.int .i8 a0_3] 38 (0,0)) (by (with_reducible repeat (first|apply kN_|apply kD_|apply kA_));exact BK382.out) hb);have n1_:=am_ (blk_below (g:=gb383) (o:=.cells #[.int .i8 a1_0,.int .i8 a1_1,.int .i8 a1_2,.int .i8 a1_3] 38 (0,0)) (by (with_reducible repeat (first|apply kN_|apply kD_|apply kA_));exact BK383.out) hb);have n2_:=am_ (blk_below (g:=gb384) (o:=.cells #[.int .i8 0,.int .i8 0,.int .i8 0,.int .i8 0] 38 (0,0)) (by (with_reducible repeat (first|apply kN_|apply kD_|apply kA_));exact BK384.out) hb);have n3_:=am_ (bT_ (by repeat (first|(with_reducible first|exact HB.out|apply bA_|apply bN_|apply bD_|refine bS_ ?_ GE382.out|refine bS_ ?_ GE383.out|refine bS_ ?_ GE384.out)|exact HB.out)) hb);have n4_:=am_ (hbox);have n5_:=am_ ((by rw [hg];exact (below_size (by repeat (first|(with_reducible first|exact HB.out|apply bA_|apply bN_|apply bD_|refine bS_ ?_ GE382.out|refine bS_ ?_ GE383.out|refine bS_ ?_ GE384.out)|exact HB.out))) : w.heap.size≤gb385));have n6_:=am_ ((by rw [hg];exact (below_size (by repeat (first|(with_reducible first|exact HB.out|apply bA_|apply bN_|apply bD_|refine bS_ ?_ GE382.out|refine bS_ ?_ GE383.out|refine bS_ ?_ GE384.out)|exact HB.out))) : w.heap.size≤gb385));have n7_:=am_ ((by rw [hg];exact Nat.ne_of_lt (blk_lt (g:=gb382) (o:=.cells #[.int .i8 a0_0,.int .i8 a0_1,.int .i8 a0_2,.int .i8 a0_3] 38 (0,0)) (by (with_reducible repeat (first|apply kN_|apply kD_|apply kA_));exact BK382.out)) : gb382 ≠ gb385));have n8_:=am_ ((by rw [hg];exact Nat.ne_of_gt (blk_lt (g:=gb382) (o:=.cells #[.int .i8 a0_0,.int .i8 a0_1,.int .i8 a0_2,.int .i8 a0_3] 38 (0,0)) (by (with_reducible repeat (first|apply kN_|apply kD_|apply kA_));exact BK382.out)) : gb385 ≠ gb382));have n9_:=am_ ((by rw [hg];exact Nat.ne_of_lt (blk_lt (g:=gb383) (o:=.cells #[.int .i8 a1_0,.int .i8 a1_1,.int .i8 a1_2,.int .i8 a1_3] 38 (0,0)) (by (with_reducible repeat (first|apply kN_|apply kD_|apply kA_));exact BK383.out)) : gb383 ≠ gb385));have n10_:=am_ ((by rw [hg];exact Nat.ne_of_gt (blk_lt (g:=gb383) (o:=.cells #[.int .i8 a1_0,.int .i8 a1_1,.int .i8 a1_2,.int .i8 a1_3] 38 (0,0)) (by (with_reducible repeat (first|apply kN_|apply kD_|apply kA_));exact BK383.out)) : gb385 ≠ gb383));have n11_:=am_ ((by rw [hg];exact Nat.ne_of_lt (blk_lt (g:=gb384) (o:=.cells #[.int .i8 0,.int .i8 0,.int .i8 0,.int .i8 0] 38 (0,0)) (by (with_reducible repeat (first|apply kN_|apply kD_|apply kA_));exact BK384.out)) : gb384 ≠ gb385));have n12_:=am_ ((by rw [hg];exact Nat.ne_of_gt (blk_lt (g:=gb384) (o:=.cells #[.int .i8 0,.int .i8 0,.int .i8 0,.int .i8 0] 38 (0,0)) (by (with_reducible repeat (first|apply kN_|apply kD_|apply kA_));exact BK384.out)) : gb385 ≠ gb384));clear BK382;clear BK383;clear BK384;clear HB;have BK382:=n0_;have BK383:=n1_;have BK384:=n2_;have HB:=n3_;have BK385:=n4_;have GW385:=n5_;have GE385:=n6_;have NB382_385:=n7_;have NB385_382:=n8_;have NB383_385:=n9_;have NB385_383:=n10_;have NB384_385:=n11_;have NB385_384:=n12_;clear n0_ n1_ n2_ n3_ n4_ n5_ n6_ n7_ n8_ n9_ n10_ n11_ n12_;clear hb hbox hg;refine hK.out _ _ ⟨(kC_ BK382.out 0).trans rfl,(kC_ BK382.out 1).trans rfl,(kC_ BK382.out 2).trans rfl,(kC_ BK382.out 3).trans rfl⟩ (fun hHeld=>?_);clear hK K;refine norm_ (a':=?_) ?_ ?_;rotate_left
     ·
      show Act.put _ (some 6) _ = _
      simp only [Act.put,z1_,z2_,z3_,i64_w,i32_w]
      rfl
     exact norm_ (by simp only [putAll,Act.put,z1_,z2_,z3_]) (hCont (gb384,gb385) _ ⟨hHeld,(by (with_reducible repeat (first|apply kN_|apply kD_|apply kA_));exact BK382.out),(by (with_reducible repeat (first|apply kN_|apply kD_|apply kA_));exact BK383.out),(by (with_reducible repeat (first|apply kN_|apply kD_|apply kA_));exact BK384.out),(by (with_reducible repeat (first|apply kN_|apply kD_|apply kA_));exact BK385.out),GW384.out,GE384.out,NB382_384.out,NB384_382.out,NB383_384.out,NB384_383.out,NB385_384.out,NB384_385.out,GW385.out,GE385.out,NB382_385.out,NB385_382.out,NB383_385.out,NB385_383.out,(by repeat (first|(with_reducible first|exact HB.out|apply bA_|apply bN_|apply bD_|refine bS_ ?_ GE382.out|refine bS_ ?_ GE383.out|refine bS_ ?_ GE384.out|refine bS_ ?_ GE385.out)|exact HB.out))⟩)
    ·
     skip
     refine box_step ?hg (N:=6) ?hd (cs:=#[.int .i8 0,.int .i8 0,.int .i8 0,.int .i8 0]) (t:=38) ?hr ?_;(case hd=>rfl);(case hg=>rfl);(case hr=>first|(go_simp;done)|(go_simp;rfl));intro gb385 hg w42 hbox hb;have n0_:=am_ (blk_below (g:=gb382) (o:=.cells #[.int .i8 a0_0,.int .i8 a0_1,.int .i8 a0_2,.int .i8 a0_3] 38 (0,0)) (by (with_reducible repeat (first|apply kN_|apply kD_|apply kA_));exact BK382.out) hb);have n1_:=am_ (blk_below (g:=gb383) (o:=.cells #[.int .i8 a1_0,.int .i8 a1_1,.int .i8 a1_2,.int .i8 a1_3] 38 (0,0)) (by (with_reducible repeat (first|apply kN_|apply kD_|apply kA_));exact BK383.out) hb);have n2_:=am_ (bT_ (by repeat (first|(with_reducible first|exact HB.out|apply bA_|apply bN_|apply bD_|refine bS_ ?_ GE382.out|refine bS_ ?_ GE383.out)|exact HB.out)) hb);have n3_:=am_ (hbox);have n4_:=am_ ((by rw [hg];exact (below_size (by repeat (first|(with_reducible first|exact HB.out|apply bA_|apply bN_|apply bD_|refine bS_ ?_ GE382.out|refine bS_ ?_ GE383.out)|exact HB.out))) : w.heap.size≤gb385));have n5_:=am_ ((by rw [hg];exact (below_size (by repeat (first|(with_reducible first|exact HB.out|apply bA_|apply bN_|apply bD_|refine bS_ ?_ GE382.out|refine bS_ ?_ GE383.out)|exact HB.out))) : w.heap.size≤gb385));have n6_:=am_ ((by rw [hg];exact Nat.ne_of_lt (blk_lt (g:=gb382) (o:=.cells #[.int .i8 a0_0,.int .i8 a0_1,.int .i8 a0_2,.int .i8 a0_3] 38 (0,0)) (by (with_reducible repeat (first|apply kN_|apply kD_|apply kA_));exact BK382.out)) : gb382 ≠ gb385));have n7_:=am_ ((by rw [hg];exact Nat.ne_of_gt (blk_lt (g:=gb382) (o:=.cells #[.int .i8 a0_0,.int .i8 a0_1,.int .i8 a0_2,.int .i8 a0_3] 38 (0,0)) (by (with_reducible repeat (first|apply kN_|apply kD_|apply kA_));exact BK382.out)) : gb385 ≠ gb382));have n8_:=am_ ((by rw [hg];exact Nat.ne_of_lt (blk_lt (g:=gb383) (o:=.cells #[.int .i8 a1_0,.int .i8 a1_1,.int .i8 a1_2,.int .i8 a1_3] 38 (0,0)) (by (with_reducible repeat (first|apply kN_|apply kD_|apply kA_));exact BK383.out)) : gb383 ≠ gb385));have n9_:=am_ ((by rw [hg];exact Nat.ne_of_gt (blk_lt (g:=gb383) (o:=.cells #[.int .i8 a1_0,.int .i8 a1_1,.int .i8 a1_2,.int .i8 a1_3] 38 (0,0)) (by (with_reducible repeat (first|apply kN_|apply kD_|apply kA_));exact BK383.out)) : gb385 ≠ gb383));clear BK382;clear BK383;clear HB;have BK382:=n0_;have BK383:=n1_;have HB:=n2_;have BK385:=n3_;have GW385:=n4_;have GE385:=n5_;have NB382_385:=n6_;have NB385_382:=n7_;have NB383_385:=n8_;have NB385_383:=n9_;clear n0_ n1_ n2_ n3_ n4_ n5_ n6_ n7_ n8_ n9_;clear hb hbox hg;refine hK.out _ _ ⟨(kC_ BK382.out 0).trans rfl,(kC_ BK382.out 1).trans rfl,(kC_ BK382.out 2).trans rfl,(kC_ BK382.out 3).trans rfl⟩ (fun hHeld=>?_);clear hK K;refine norm_ (a':=?_) ?_ ?_;rotate_left
     ·
      show Act.put _ (some 6) _ = _
      simp only [Act.put,z1_,z2_,z3_,i64_w,i32_w]
      rfl
     refine one_ (i:=2) (N:=some 5) (mB_ 6 15) rfl rfl (by kernel_rfl) (by decide) (fun K hK=>?_);refine box_step ?hg (N:=5) ?hd (cs:=#[.int .i8 0,.int .i8 0,.int .i8 0,.int .i8 0]) (t:=38) ?hr ?_;(case hd=>rfl);(case hg=>rfl);(case hr=>first|(go_simp;done)|(go_simp;rfl));intro gb384 hg w43 hbox hb;have n0_:=am_ (blk_below (g:=gb382) (o:=.cells #[.int .i8 a0_0,.int .i8 a0_1,.int .i8 a0_2,.int .i8 a0_3] 38 (0,0)) (by (with_reducible repeat (first|apply kN_|apply kD_|apply kA_));exact BK382.out) hb);have n1_:=am_ (blk_below (g:=gb383) (o:=.cells #[.int .i8 a1_0,.int .i8 a1_1,.int .i8 a1_2,.int .i8 a1_3] 38 (0,0)) (by (with_reducible repeat (first|apply kN_|apply kD_|apply kA_));exact BK383.out) hb);have n2_:=am_ (blk_below (g:=gb385) (o:=.cells #[.int .i8 0,.int .i8 0,.int .i8 0,.int .i8 0] 38 (0,0)) (by (with_reducible repeat (first|apply kN_|apply kD_|apply kA_));exact BK385.out) hb);have n3_:=am_ (bT_ (by repeat (first|(with_reducible first|exact HB.out|apply bA_|apply bN_|apply bD_|refine bS_ ?_ GE382.out|refine bS_ ?_ GE383.out|refine bS_ ?_ GE385.out)|exact HB.out)) hb);have n4_:=am_ (hbox);have n5_:=am_ ((by rw [hg];exact (below_size (by repeat (first|(with_reducible first|exact HB.out|apply bA_|apply bN_|apply bD_|refine bS_ ?_ GE382.out|refine bS_ ?_ GE383.out|refine bS_ ?_ GE385.out)|exact HB.out))) : w.heap.size≤gb384));have n6_:=am_ ((by rw [hg];exact (below_size (by repeat (first|(with_reducible first|exact HB.out|apply bA_|apply bN_|apply bD_|refine bS_ ?_ GE382.out|refine bS_ ?_ GE383.out|refine bS_ ?_ GE385.out)|exact HB.out))) : w.heap.size≤gb384));have n7_:=am_ ((by rw [hg];exact Nat.ne_of_lt (blk_lt (g:=gb382) (o:=.cells #[.int .i8 a0_0,.int .i8 a0_1,.int .i8 a0_2,.int .i8 a0_3] 38 (0,0)) (by (with_reducible repeat (first|apply kN_|apply kD_|apply kA_));exact BK382.out)) : gb382 ≠ gb384));have n8_:=am_ ((by rw [hg];exact Nat.ne_of_gt (blk_lt (g:=gb382) (o:=.cells #[.int .i8 a0_0,.int .i8 a0_1,.int .i8 a0_2,.int .i8 a0_3] 38 (0,0)) (by (with_reducible repeat (first|apply kN_|apply kD_|apply kA_));exact BK382.out)) : gb384 ≠ gb382));have n9_:=am_ ((by rw [hg];exact Nat.ne_of_lt (blk_lt (g:=gb383) (o:=.cells #[.int .i8 a1_0,.int .i8 a1_1,.int .i8 a1_2,.int .i8 a1_3] 38 (0,0)) (by (with_reducible repeat (first|apply kN_|apply kD_|apply kA_));exact BK383.out)) : gb383 ≠ gb384));have n10_:=am_ ((by rw [hg];exact Nat.ne_of_gt (blk_lt (g:=gb383) (o:=.cells #[.int .i8 a1_0,.int .i8 a1_1,.int .i8 a1_2,.int .i8 a1_3] 38 (0,0)) (by (with_reducible repeat (first|apply kN_|apply kD_|apply kA_));exact BK383.out)) : gb384 ≠ gb383));have n11_:=am_ ((by rw [hg];exact Nat.ne_of_lt (blk_lt (g:=gb385) (o:=.cells #[.int .i8 0,.int .i8 0,.int .i8 0,.int .i8 0] 38 (0,0)) (by (with_reducible repeat (first|apply kN_|apply kD_|apply kA_));exact BK385.out)) : gb385 ≠ gb384));have n12_:=am_ ((by rw [hg];exact Nat.ne_of_gt (blk_lt (g:=gb385) (o:=.cells #[.int .i8 0,.int .i8 0,.int .i8 0,.int .i8 0] 38 (0,0)) (by (with_reducible repeat (first|apply kN_|apply kD_|apply kA_));exact BK385.out)) : gb384 ≠ gb385));clear BK382;clear BK383;clear BK385;clear HB;have BK382:=n0_;have BK383:=n1_;have BK385:=n2_;have HB:=n3_;have BK384:=n4_;have GW384:=n5_;have GE384:=n6_;have NB382_384:=n7_;have NB384_382:=n8_;have NB383_384:=n9_;have NB384_383:=n10_;have NB385_384:=n11_;have NB384_385:=n12_;clear n0_ n1_ n2_ n3_ n4_ n5_ n6_ n7_ n8_ n9_ n10_ n11_ n12_;clear hb hbox hg;refine hK.out _ _ ⟨(kC_ BK382.out 0).trans rfl,(kC_ BK382.out 1).trans rfl,(kC_ BK382.out 2).trans rfl,(kC_ BK382.out 3).trans rfl⟩ (fun hHeld=>?_);clear hK K;refine norm_ (a':=?_) ?_ ?_;rotate_left
     ·
      show Act.put _ (some 5) _ = _
      simp only [Act.put,z1_,z2_,z3_,i64_w,i32_w]
      rfl
     exact norm_ (by simp only [putAll,Act.put,z1_,z2_,z3_]) (hCont (gb384,gb385) _ ⟨hHeld,(by (with_reducible repeat (first|apply kN_|apply kD_|apply kA_));exact BK382.out),(by (with_reducible repeat (first|apply kN_|apply kD_|apply kA_));exact BK383.out),(by (with_reducible repeat (first|apply kN_|apply kD_|apply kA_));exact BK384.out),(by (with_reducible repeat (first|apply kN_|apply kD_|apply kA_));exact BK385.out),GW384.out,GE384.out,NB382_384.out,NB384_382.out,NB383_384.out,NB384_383.out,NB385_384.out,NB384_385.out,GW385.out,GE385.out,NB382_385.out,NB385_382.out,NB383_385.out,NB385_383.out,(by repeat (first|(with_reducible first|exact HB.out|apply bA_|apply bN_|apply bD_|refine bS_ ?_ GE382.out|refine bS_ ?_ GE383.out|refine bS_ ?_ GE385.out|refine bS_ ?_ GE384.out)|exact HB.out))⟩)
   rintro ⟨gb384,gb385⟩ w44 ⟨hS_,h0_,h1_,h2_,h3_,h4_,h5_,h6_,h7_,h8_,h9_,h10_,h11_,h12_,h13_,h14_,h15_,h16_,h17_,h18_⟩;have n0_ : Aside0 (w44.heap[gb382]? = some (.cells #[.int .i8 a0_0,.int .i8 a0_1,.int .i8 a0_2,.int .i8 a0_3] 38 (0,0))):=⟨h0_⟩
   have n1_ : Aside0 (w44.heap[gb383]? = some (.cells #[.int .i8 a1_0,.int .i8 a1_1,.int .i8 a1_2,.int .i8 a1_3] 38 (0,0))):=⟨h1_⟩
   have n2_ : Aside0 (w44.heap[gb384]? = some (.cells #[.int .i8 0,.int .i8 0,.int .i8 0,.int .i8 0] 38 (0,0))):=⟨h2_⟩
   have n3_ : Aside0 (w44.heap[gb385]? = some (.cells #[.int .i8 0,.int .i8 0,.int .i8 0,.int .i8 0] 38 (0,0))):=⟨h3_⟩
   have n4_ : Aside0 (w.heap.size≤gb384):=⟨h4_⟩
   have n5_ : Aside0 (w.heap.size≤gb384):=⟨h5_⟩
   have n6_ : Aside0 (gb382 ≠ gb384):=⟨h6_⟩
   have n7_ : Aside0 (gb384 ≠ gb382):=⟨h7_⟩
   have n8_ : Aside0 (gb383 ≠ gb384):=⟨h8_⟩
   have n9_ : Aside0 (gb384 ≠ gb383):=⟨h9_⟩
   have n10_ : Aside0 (gb385 ≠ gb384):=⟨h10_⟩
   have n11_ : Aside0 (gb384 ≠ gb385):=⟨h11_⟩
   have n12_ : Aside0 (w.heap.size≤gb385):=⟨h12_⟩
   have n13_ : Aside0 (w.heap.size≤gb385):=⟨h13_⟩
   have n14_ : Aside0 (gb382 ≠ gb385):=⟨h14_⟩
   have n15_ : Aside0 (gb385 ≠ gb382):=⟨h15_⟩
   have n16_ : Aside0 (gb383 ≠ gb385):=⟨h16_⟩
   have n17_ : Aside0 (gb385 ≠ gb383):=⟨h17_⟩
   have n18_ : Aside0 (Below w.heap.size w w44):=⟨h18_⟩
   clear BK382;clear BK383;clear HB;clear h0_ h1_ h2_ h3_ h4_ h5_ h6_ h7_ h8_ h9_ h10_ h11_ h12_ h13_ h14_ h15_ h16_ h17_ h18_;have BK382:=n0_;have BK383:=n1_;have BK384:=n2_;have BK385:=n3_;have GW384:=n4_;have GE384:=n5_;have NB382_384:=n6_;have NB384_382:=n7_;have NB383_384:=n8_;have NB384_383:=n9_;have NB385_384:=n10_;have NB384_385:=n11_;have GW385:=n12_;have GE385:=n13_;have NB382_385:=n14_;have NB385_382:=n15_;have NB383_385:=n16_;have NB385_383:=n17_;have HB:=n18_;clear n0_ n1_ n2_ n3_ n4_ n5_ n6_ n7_ n8_ n9_ n10_ n11_ n12_ n13_ n14_ n15_ n16_ n17_ n18_;have hHeld : w44.cell? ⟨gb382,0,none⟩ = some (.int .i8 a0_0) ∧ w44.cell? ⟨gb382,1,none⟩ = some (.int .i8 a0_1) ∧ w44.cell? ⟨gb382,2,none⟩ = some (.int .i8 a0_2) ∧ w44.cell? ⟨gb382,3,none⟩ = some (.int .i8 a0_3):=hS_;refine norm_ (a':=?_) ?_ ?_;rotate_left
   ·
    simp only [putAll,Act.put,z1_,z2_,z3_]
    rfl
   refine one_ (i:=4) (N:=none) (mB_ 6 31) rfl rfl (by kernel_rfl) (by decide) (fun K hK=>?_);have hs45 : w44.cell? ⟨gb384,0,none⟩ = some (.int .i8 0):=(kC_ BK384.out 0).trans rfl;have hfs45:=kF_ BK384.out 0;have hns45_0:=NB382_384.out;have hns45_1:=NB383_384.out;have hns45_3:=NB385_384.out;have hms45_0:=NB384_382.out;have hms45_1:=NB384_383.out;have hms45_3:=NB384_385.out;have hs46 : w44.cell? ⟨gb384,1,none⟩ = some (.int .i8 0):=(kC_ BK384.out 1).trans rfl;have hfs46:=kF_ BK384.out 1;have hns46_0:=NB382_384.out;have hns46_1:=NB383_384.out;have hns46_3:=NB385_384.out;have hms46_0:=NB384_382.out;have hms46_1:=NB384_383.out;have hms46_3:=NB384_385.out;have hs47 : w44.cell? ⟨gb384,2,none⟩ = some (.int .i8 0):=(kC_ BK384.out 2).trans rfl;have hfs47:=kF_ BK384.out 2;have hns47_0:=NB382_384.out;have hns47_1:=NB383_384.out;have hns47_3:=NB385_384.out;have hms47_0:=NB384_382.out;have hms47_1:=NB384_383.out;have hms47_3:=NB384_385.out;have hs48 : w44.cell? ⟨gb384,3,none⟩ = some (.int .i8 0):=(kC_ BK384.out 3).trans rfl;have hfs48:=kF_ BK384.out 3;have hns48_0:=NB382_384.out;have hns48_1:=NB383_384.out;have hns48_3:=NB385_384.out;have hms48_0:=NB384_382.out;have hms48_1:=NB384_383.out;have hms48_3:=NB384_385.out;refine skip_ (w1:=?_) (by rfl) rfl ?_ ?_;rotate_left
   ·
    go_simp
    rfl
   refine hK.out _ _ ⟨((cell_far (p:=⟨gb384,_,none⟩) NB382_384.out _).trans (((cell_far (p:=⟨gb384,_,none⟩) NB382_384.out _).trans (((cell_far (p:=⟨gb384,_,none⟩) NB382_384.out _).trans (((cell_far (p:=⟨gb384,_,none⟩) NB382_384.out _).trans (hHeld.1)))))))),((cell_far (p:=⟨gb384,_,none⟩) NB382_384.out _).trans (((cell_far (p:=⟨gb384,_,none⟩) NB382_384.out _).trans (((cell_far (p:=⟨gb384,_,none⟩) NB382_384.out _).trans (((cell_far (p:=⟨gb384,_,none⟩) NB382_384.out _).trans (hHeld.2.1)))))))),((cell_far (p:=⟨gb384,_,none⟩) NB382_384.out _).trans (((cell_far (p:=⟨gb384,_,none⟩) NB382_384.out _).trans (((cell_far (p:=⟨gb384,_,none⟩) NB382_384.out _).trans (((cell_far (p:=⟨gb384,_,none⟩) NB382_384.out _).trans (hHeld.2.2.1)))))))),((cell_far (p:=⟨gb384,_,none⟩) NB382_384.out _).trans (((cell_far (p:=⟨gb384,_,none⟩) NB382_384.out _).trans (((cell_far (p:=⟨gb384,_,none⟩) NB382_384.out _).trans (((cell_far (p:=⟨gb384,_,none⟩) NB382_384.out _).trans (hHeld.2.2.2))))))))⟩ (fun hHeld=>?_);clear hK K;refine one_ (i:=5) (N:=none) (mB_ 6 63) rfl rfl (by kernel_rfl) (by decide) (fun K hK=>?_);have hs49 : w44.cell? ⟨gb385,0,none⟩ = some (.int .i8 0):=(kC_ BK385.out 0).trans rfl;have hfs49:=kF_ BK385.out 0;have hns49_0:=NB382_385.out;have hns49_1:=NB383_385.out;have hns49_2:=NB384_385.out;have hms49_0:=NB385_382.out;have hms49_1:=NB385_383.out;have hms49_2:=NB385_384.out;have hs50 : w44.cell? ⟨gb385,1,none⟩ = some (.int .i8 0):=(kC_ BK385.out 1).trans rfl;have hfs50:=kF_ BK385.out 1;have hns50_0:=NB382_385.out;have hns50_1:=NB383_385.out;have hns50_2:=NB384_385.out;have hms50_0:=NB385_382.out;have hms50_1:=NB385_383.out;have hms50_2:=NB385_384.out;have hs51 : w44.cell? ⟨gb385,2,none⟩ = some (.int .i8 0):=(kC_ BK385.out 2).trans rfl;have hfs51:=kF_ BK385.out 2;have hns51_0:=NB382_385.out;have hns51_1:=NB383_385.out;have hns51_2:=NB384_385.out;have hms51_0:=NB385_382.out;have hms51_1:=NB385_383.out;have hms51_2:=NB385_384.out;have hs52 : w44.cell? ⟨gb385,3,none⟩ = some (.int .i8 0):=(kC_ BK385.out 3).trans rfl;have hfs52:=kF_ BK385.out 3;have hns52_0:=NB382_385.out;have hns52_1:=NB383_385.out;have hns52_2:=NB384_385.out;have hms52_0:=NB385_382.out;have hms52_1:=NB385_383.out;have hms52_2:=NB385_384.out;refine skip_ (w1:=?_) (by rfl) rfl ?_ ?_;rotate_left
   ·
    go_simp
    rfl
   refine hK.out _ _ ⟨((cell_far (p:=⟨gb385,_,none⟩) NB382_385.out _).trans (((cell_far (p:=⟨gb385,_,none⟩) NB382_385.out _).trans (((cell_far (p:=⟨gb385,_,none⟩) NB382_385.out _).trans (((cell_far (p:=⟨gb385,_,none⟩) NB382_385.out _).trans (hHeld.1)))))))),((cell_far (p:=⟨gb385,_,none⟩) NB382_385.out _).trans (((cell_far (p:=⟨gb385,_,none⟩) NB382_385.out _).trans (((cell_far (p:=⟨gb385,_,none⟩) NB382_385.out _).trans (((cell_far (p:=⟨gb385,_,none⟩) NB382_385.out _).trans (hHeld.2.1)))))))),((cell_far (p:=⟨gb385,_,none⟩) NB382_385.out _).trans (((cell_far (p:=⟨gb385,_,none⟩) NB382_385.out _).trans (((cell_far (p:=⟨gb385,_,none⟩) NB382_385.out _).trans (((cell_far (p:=⟨gb385,_,none⟩) NB382_385.out _).trans (hHeld.2.2.1)))))))),((cell_far (p:=⟨gb385,_,none⟩) NB382_385.out _).trans (((cell_far (p:=⟨gb385,_,none⟩) NB382_385.out _).trans (((cell_far (p:=⟨gb385,_,none⟩) NB382_385.out _).trans (((cell_far (p:=⟨gb385,_,none⟩) NB382_385.out _).trans (hHeld.2.2.2))))))))⟩ (fun hHeld=>?_);clear hK K;refine done_ (by kernel_rfl) ?_
   try go_wp2
   have n0_ : Aside0 (((((((((w44.setCell ⟨gb384,0,none⟩ (.int .i8 a0_0)).setCell ⟨gb384,1,none⟩ (.int .i8 a0_1)).setCell ⟨gb384,2,none⟩ (.int .i8 a0_2)).setCell ⟨gb384,3,none⟩ (.int .i8 a0_3)).setCell ⟨gb385,0,none⟩ (.int .i8 a0_0)).setCell ⟨gb385,1,none⟩ (.int .i8 a0_1)).setCell ⟨gb385,2,none⟩ (.int .i8 a0_2)).setCell ⟨gb385,3,none⟩ (.int .i8 a0_3)).heap[gb382]? = some (.cells #[.int .i8 a0_0,.int .i8 a0_1,.int .i8 a0_2,.int .i8 a0_3] 38 (0,0))):=⟨by (with_reducible repeat (first|apply kN_|apply kD_|apply kA_));refine blk_far ?_ NB382_385.out _;(with_reducible repeat (first|apply kN_|apply kD_|apply kA_));refine blk_far ?_ NB382_385.out _;(with_reducible repeat (first|apply kN_|apply kD_|apply kA_));refine blk_far ?_ NB382_385.out _;(with_reducible repeat (first|apply kN_|apply kD_|apply kA_));refine blk_far ?_ NB382_385.out _;(with_reducible repeat (first|apply kN_|apply kD_|apply kA_));refine blk_far ?_ NB382_384.out _;(with_reducible repeat (first|apply kN_|apply kD_|apply kA_));refine blk_far ?_ NB382_384.out _;(with_reducible repeat (first|apply kN_|apply kD_|apply kA_));refine blk_far ?_ NB382_384.out _;(with_reducible repeat (first|apply kN_|apply kD_|apply kA_));refine blk_far ?_ NB382_384.out _;(with_reducible repeat (first|apply kN_|apply kD_|apply kA_));exact BK382.out⟩
   have n1_ : Aside0 (((((((((w44.setCell ⟨gb384,0,none⟩ (.int .i8 a0_0)).setCell ⟨gb384,1,none⟩ (.int .i8 a0_1)).setCell ⟨gb384,2,none⟩ (.int .i8 a0_2)).setCell ⟨gb384,3,none⟩ (.int .i8 a0_3)).setCell ⟨gb385,0,none⟩ (.int .i8 a0_0)).setCell ⟨gb385,1,none⟩ (.int .i8 a0_1)).setCell ⟨gb385,2,none⟩ (.int .i8 a0_2)).setCell ⟨gb385,3,none⟩ (.int .i8 a0_3)).heap[gb383]? = some (.cells #[.int .i8 a1_0,.int .i8 a1_1,.int .i8 a1_2,.int .i8 a1_3] 38 (0,0))):=⟨by (with_reducible repeat (first|apply kN_|apply kD_|apply kA_));refine blk_far ?_ NB383_385.out _;(with_reducible repeat (first|apply kN_|apply kD_|apply kA_));refine blk_far ?_ NB383_385.out _;(with_reducible repeat (first|apply kN_|apply kD_|apply kA_));refine blk_far ?_ NB383_385.out _;(with_reducible repeat (first|apply kN_|apply kD_|apply kA_));refine blk_far ?_ NB383_385.out _;(with_reducible repeat (first|apply kN_|apply kD_|apply kA_));refine blk_far ?_ NB383_384.out _;(with_reducible repeat (first|apply kN_|apply kD_|apply kA_));refine blk_far ?_ NB383_384.out _;(with_reducible repeat (first|apply kN_|apply kD_|apply kA_));refine blk_far ?_ NB383_384.out _;(with_reducible repeat (first|apply kN_|apply kD_|apply kA_));refine blk_far ?_ NB383_384.out _;(with_reducible repeat (first|apply kN_|apply kD_|apply kA_));exact BK383.out⟩
   have n2_ : Aside0 (((((((((w44.setCell ⟨gb384,0,none⟩ (.int .i8 a0_0)).setCell ⟨gb384,1,none⟩ (.int .i8 a0_1)).setCell ⟨gb384,2,none⟩ (.int .i8 a0_2)).setCell ⟨gb384,3,none⟩ (.int .i8 a0_3)).setCell ⟨gb385,0,none⟩ (.int .i8 a0_0)).setCell ⟨gb385,1,none⟩ (.int .i8 a0_1)).setCell ⟨gb385,2,none⟩ (.int .i8 a0_2)).setCell ⟨gb385,3,none⟩ (.int .i8 a0_3)).heap[gb384]? = some (.cells #[.int .i8 a0_0,.int .i8 a0_1,.int .i8 a0_2,.int .i8 a0_3] 38 (0,0))):=⟨by (with_reducible repeat (first|apply kN_|apply kD_|apply kA_));refine blk_far ?_ NB384_385.out _;(with_reducible repeat (first|apply kN_|apply kD_|apply kA_));refine blk_far ?_ NB384_385.out _;(with_reducible repeat (first|apply kN_|apply kD_|apply kA_));refine blk_far ?_ NB384_385.out _;(with_reducible repeat (first|apply kN_|apply kD_|apply kA_));refine blk_far ?_ NB384_385.out _;(with_reducible repeat (first|apply kN_|apply kD_|apply kA_));refine blk_put (cs:=#[.int .i8 a0_0,.int .i8 a0_1,.int .i8 a0_2,.int .i8 0]) ?_ 3 _ rfl;(with_reducible repeat (first|apply kN_|apply kD_|apply kA_));refine blk_put (cs:=#[.int .i8 a0_0,.int .i8 a0_1,.int .i8 0,.int .i8 0]) ?_ 2 _ rfl;(with_reducible repeat (first|apply kN_|apply kD_|apply kA_));refine blk_put (cs:=#[.int .i8 a0_0,.int .i8 0,.int .i8 0,.int .i8 0]) ?_ 1 _ rfl;(with_reducible repeat (first|apply kN_|apply kD_|apply kA_));refine blk_put (cs:=#[.int .i8 0,.int .i8 0,.int .i8 0,.int .i8 0]) ?_ 0 _ rfl;(with_reducible repeat (first|apply kN_|apply kD_|apply kA_));exact BK384.out⟩
   have n3_ : Aside0 (((((((((w44.setCell ⟨gb384,0,none⟩ (.int .i8 a0_0)).setCell ⟨gb384,1,none⟩ (.int .i8 a0_1)).setCell ⟨gb384,2,none⟩ (.int .i8 a0_2)).setCell ⟨gb384,3,none⟩ (.int .i8 a0_3)).setCell ⟨gb385,0,none⟩ (.int .i8 a0_0)).setCell ⟨gb385,1,none⟩ (.int .i8 a0_1)).setCell ⟨gb385,2,none⟩ (.int .i8 a0_2)).setCell ⟨gb385,3,none⟩ (.int .i8 a0_3)).heap[gb385]? = some (.cells #[.int .i8 a0_0,.int .i8 a0_1,.int .i8 a0_2,.int .i8 a0_3] 38 (0,0))):=⟨by (with_reducible repeat (first|apply kN_|apply kD_|apply kA_));refine blk_put (cs:=#[.int .i8 a0_0,.int .i8 a0_1,.int .i8 a0_2,.int .i8 0]) ?_ 3 _ rfl;(with_reducible repeat (first|apply kN_|apply kD_|apply kA_));refine blk_put (cs:=#[.int .i8 a0_0,.int .i8 a0_1,.int .i8 0,.int .i8 0]) ?_ 2 _ rfl;(with_reducible repeat (first|apply kN_|apply kD_|apply kA_));refine blk_put (cs:=#[.int .i8 a0_0,.int .i8 0,.int .i8 0,.int .i8 0]) ?_ 1 _ rfl;(with_reducible repeat (first|apply kN_|apply kD_|apply kA_));refine blk_put (cs:=#[.int .i8 0,.int .i8 0,.int .i8 0,.int .i8 0]) ?_ 0 _ rfl;(with_reducible repeat (first|apply kN_|apply kD_|apply kA_));refine blk_far ?_ NB385_384.out _;(with_reducible repeat (first|apply kN_|apply kD_|apply kA_));refine blk_far ?_ NB385_384.out _;(with_reducible repeat (first|apply kN_|apply kD_|apply kA_));refine blk_far ?_ NB385_384.out _;(with_reducible repeat (first|apply kN_|apply kD_|apply kA_));refine blk_far ?_ NB385_384.out _;(with_reducible repeat (first|apply kN_|apply kD_|apply kA_));exact BK385.out⟩
   have n4_ : Aside0 (Below w.heap.size w ((((((((w44.setCell ⟨gb384,0,none⟩ (.int .i8 a0_0)).setCell ⟨gb384,1,none⟩ (.int .i8 a0_1)).setCell ⟨gb384,2,none⟩ (.int .i8 a0_2)).setCell ⟨gb384,3,none⟩ (.int .i8 a0_3)).setCell ⟨gb385,0,none⟩ (.int .i8 a0_0)).setCell ⟨gb385,1,none⟩ (.int .i8 a0_1)).setCell ⟨gb385,2,none⟩ (.int .i8 a0_2)).setCell ⟨gb385,3,none⟩ (.int .i8 a0_3))):=⟨by repeat (first|(with_reducible first|exact HB.out|apply bA_|apply bN_|apply bD_|refine bS_ ?_ GE382.out|refine bS_ ?_ GE383.out|refine bS_ ?_ GE384.out|refine bS_ ?_ GE385.out)|exact HB.out)⟩
   (try clear BK382);(try clear BK383);(try clear BK384);(try clear BK385);(try clear HB);generalize ((((((((w44.setCell ⟨gb384,0,none⟩ (.int .i8 a0_0)).setCell ⟨gb384,1,none⟩ (.int .i8 a0_1)).setCell ⟨gb384,2,none⟩ (.int .i8 a0_2)).setCell ⟨gb384,3,none⟩ (.int .i8 a0_3)).setCell ⟨gb385,0,none⟩ (.int .i8 a0_0)).setCell ⟨gb385,1,none⟩ (.int .i8 a0_1)).setCell ⟨gb385,2,none⟩ (.int .i8 a0_2)).setCell ⟨gb385,3,none⟩ (.int .i8 a0_3)) = w53 at n0_ n1_ n2_ n3_ n4_ ⊢;have BK382:=n0_;have BK383:=n1_;have BK384:=n2_;have BK385:=n3_;have HB:=n4_;clear n0_ n1_ n2_ n3_ n4_;have n0_:=am_ (kD_ BK382.out);have n1_:=am_ (kD_ BK383.out);have n2_:=am_ (kD_ BK384.out);have n3_:=am_ (kD_ BK385.out);have n4_:=am_ (bD_ HB.out);clear BK382;clear BK383;clear BK384;clear BK385;clear HB;have BK382:=n0_;have BK383:=n1_;have BK384:=n2_;have BK385:=n3_;have HB:=n4_;clear n0_ n1_ n2_ n3_ n4_;refine start_ (n:=10) (S:=fun w'=>w'.cell? ⟨gb382,0,none⟩ = some (.int .i8 a0_0) ∧ w'.cell? ⟨gb382,1,none⟩ = some (.int .i8 a0_1) ∧ w'.cell? ⟨gb382,2,none⟩ = some (.int .i8 a0_2) ∧ w'.cell? ⟨gb382,3,none⟩ = some (.int .i8 a0_3)) (ds:=[]) (mB_ 10 0) (by kernel_rfl) rfl rfl ⟨(kC_ BK382.out 0).trans rfl,(kC_ BK382.out 1).trans rfl,(kC_ BK382.out 2).trans rfl,(kC_ BK382.out 3).trans rfl⟩ (fun hHeld=>?_);refine with_tabW impl_areBeside.tab2 impl_areBeside.bits2 (fun HT_ HW_=>?_);generalize w53.drew = w54 at BK382 BK383 BK384 BK385 HB hHeld ⊢;refine pure_ (i:=0) (N:=some 9) (v:=?_) (a':=?_) (mB_ 10 1) rfl rfl (any_of HT_.out (by kernel_rfl)) (fun _ _ _ h=>h) (Or.inl ⟨by rfl,?_⟩) ?_ ?_;rotate_left
   ·
    intro w'
    go_simp
    with_reducible rfl
   rotate_left
   ·
    simp only [Act.put,z1_,z2_,z3_,i64_w,i32_w]
    rfl
   refine pure_ (i:=3) (N:=some 12) (v:=?_) (a':=?_) (mB_ 10 9) rfl rfl (any_of HT_.out (by kernel_rfl)) (fun _ _ _ h=>h) (Or.inl ⟨by rfl,?_⟩) ?_ ?_;rotate_left
   ·
    intro w'
    go_simp
    with_reducible rfl
   rotate_left
   ·
    simp only [Act.put,z1_,z2_,z3_,i64_w,i32_w]
    rfl
   refine take_ (i:=1) (N:=some 10) (v:=?_) (a':=?_) (mB_ 10 11) rfl rfl (take_ofW HT_.out HW_.out (by kernel_rfl)) (fun _ _ _ h=>h) (Or.inl ⟨by rfl,?_⟩) hHeld ?_ ?_;rotate_left
   ·
    rintro w' ⟨s0,s1,s2,s3⟩
    go_simp
    with_reducible rfl
   rotate_left
   ·
    simp only [Act.put,z1_,z2_,z3_,i64_w,i32_w]
    rfl
   refine pure_ (i:=2) (N:=some 11) (v:=?_) (a':=?_) (mB_ 10 15) rfl rfl (any_of HT_.out (by kernel_rfl)) (fun _ _ _ h=>h) (Or.inl ⟨by rfl,?_⟩) ?_ ?_;rotate_left
   ·
    intro w'
    go_simp
    with_reducible rfl
   rotate_left
   ·
    simp only [Act.put,z1_,z2_,z3_,i64_w,i32_w]
    rfl
   refine pure_ (i:=6) (N:=some 15) (v:=?_) (a':=?_) (mB_ 10 79) rfl rfl (any_of HT_.out (by kernel_rfl)) (fun _ _ _ h=>h) (Or.inl ⟨by rfl,?_⟩) ?_ ?_;rotate_left
   ·
    intro w'
    go_simp
    with_reducible rfl
   rotate_left
   ·
    simp only [Act.put,z1_,z2_,z3_,i64_w,i32_w]
    rfl
   refine take_ (i:=4) (N:=some 13) (v:=?_) (a':=?_) (mB_ 10 95) rfl rfl (take_ofW HT_.out HW_.out (by kernel_rfl)) (fun _ _ _ h=>h) (Or.inl ⟨by rfl,?_⟩) hHeld ?_ ?_;rotate_left
   ·
    rintro w' ⟨s0,s1,s2,s3⟩
    go_simp
    with_reducible rfl
   rotate_left
   ·
    simp only [Act.put,z1_,z2_,z3_,i64_w,i32_w]
    rfl
   refine pure_ (i:=5) (N:=some 14) (v:=?_) (a':=?_) (mB_ 10 127) rfl rfl (any_of HT_.out (by kernel_rfl)) (fun _ _ _ h=>h) (Or.inl ⟨by rfl,?_⟩) ?_ ?_;rotate_left
   ·
    intro w'
    go_simp
    with_reducible rfl
   rotate_left
   ·
    simp only [Act.put,z1_,z2_,z3_,i64_w,i32_w]
    rfl
   refine one_ (i:=7) (N:=none) (mB_ 10 255) rfl rfl (one_of HT_.out (by kernel_rfl)) (by decide) (fun K hK=>?_);have hs55 : w54.cell? ⟨gb384,0,none⟩ = some (.int .i8 a0_0):=(kC_ BK384.out 0).trans rfl;have hfs55:=kF_ BK384.out 0;have hns55_0:=NB382_384.out;have hns55_1:=NB383_384.out;have hns55_3:=NB385_384.out;have hms55_0:=NB384_382.out;have hms55_1:=NB384_383.out;have hms55_3:=NB384_385.out;refine skip_ (w1:=?_) (by rfl) rfl ?_ ?_;rotate_left
   ·
    go_simp
    rfl
   refine hK.out _ _ ⟨((cell_far (p:=⟨gb384,_,none⟩) NB382_384.out _).trans (hHeld.1)),((cell_far (p:=⟨gb384,_,none⟩) NB382_384.out _).trans (hHeld.2.1)),((cell_far (p:=⟨gb384,_,none⟩) NB382_384.out _).trans (hHeld.2.2.1)),((cell_far (p:=⟨gb384,_,none⟩) NB382_384.out _).trans (hHeld.2.2.2))⟩ (fun hHeld=>?_);clear hK K;refine pure_ (i:=8) (N:=some 16) (v:=?_) (a':=?_) (mB_ 10 511) rfl rfl (any_of HT_.out (by kernel_rfl)) (fun _ _ _ h=>h) (Or.inl ⟨by rfl,?_⟩) ?_ ?_;rotate_left
   ·
    intro w'
    go_simp
    with_reducible rfl
   rotate_left
   ·
    simp only [Act.put,z1_,z2_,z3_,i64_w,i32_w]
    rfl
   refine one_ (i:=9) (N:=none) (mB_ 10 1023) rfl rfl (one_of HT_.out (by kernel_rfl)) (by decide) (fun K hK=>?_);have hs56 : w54.cell? ⟨gb384,2,none⟩ = some (.int .i8 a0_2):=(kC_ BK384.out 2).trans rfl;have hfs56:=kF_ BK384.out 2;have hns56_0:=NB382_384.out;have hns56_1:=NB383_384.out;have hns56_3:=NB385_384.out;have hms56_0:=NB384_382.out;have hms56_1:=NB384_383.out;have hms56_3:=NB384_385.out;refine skip_ (w1:=?_) (by rfl) rfl ?_ ?_;rotate_left
   ·
    go_simp
    rfl
   refine hK.out _ _ ⟨((cell_far (p:=⟨gb384,_,none⟩) NB382_384.out _).trans (hHeld.1)),((cell_far (p:=⟨gb384,_,none⟩) NB382_384.out _).trans (hHeld.2.1)),((cell_far (p:=⟨gb384,_,none⟩) NB382_384.out _).trans (hHeld.2.2.1)),((cell_far (p:=⟨gb384,_,none⟩) NB382_384.out _).trans (hHeld.2.2.2))⟩ (fun hHeld=>?_);clear hK K;refine done_ (done_of HT_.out (by kernel_rfl)) ?_
   try go_wp2
   have n0_ : Aside0 (((w54.setCell ⟨gb384,0,none⟩ (.int .i8 (IntKind.i8.wrap (a0_0 - 1)))).setCell ⟨gb384,2,none⟩ (.int .i8 (IntKind.i8.wrap (a0_2 + 2)))).heap[gb382]? = some (.cells #[.int .i8 a0_0,.int .i8 a0_1,.int .i8 a0_2,.int .i8 a0_3] 38 (0,0))):=⟨by (with_reducible repeat (first|apply kN_|apply kD_|apply kA_));refine blk_far ?_ NB382_384.out _;(with_reducible repeat (first|apply kN_|apply kD_|apply kA_));refine blk_far ?_ NB382_384.out _;(with_reducible repeat (first|apply kN_|apply kD_|apply kA_));exact BK382.out⟩
   have n1_ : Aside0 (((w54.setCell ⟨gb384,0,none⟩ (.int .i8 (IntKind.i8.wrap (a0_0 - 1)))).setCell ⟨gb384,2,none⟩ (.int .i8 (IntKind.i8.wrap (a0_2 + 2)))).heap[gb383]? = some (.cells #[.int .i8 a1_0,.int .i8 a1_1,.int .i8 a1_2,.int .i8 a1_3] 38 (0,0))):=⟨by (with_reducible repeat (first|apply kN_|apply kD_|apply kA_));refine blk_far ?_ NB383_384.out _;(with_reducible repeat (first|apply kN_|apply kD_|apply kA_));refine blk_far ?_ NB383_384.out _;(with_reducible repeat (first|apply kN_|apply kD_|apply kA_));exact BK383.out⟩
   have n2_ : Aside0 (((w54.setCell ⟨gb384,0,none⟩ (.int .i8 (IntKind.i8.wrap (a0_0 - 1)))).setCell ⟨gb384,2,none⟩ (.int .i8 (IntKind.i8.wrap (a0_2 + 2)))).heap[gb384]? = some (.cells #[.int .i8 (IntKind.i8.wrap (a0_0 - 1)),.int .i8 a0_1,.int .i8 (IntKind.i8.wrap (a0_2 + 2)),.int .i8 a0_3] 38 (0,0))):=⟨by (with_reducible repeat (first|apply kN_|apply kD_|apply kA_));refine blk_put (cs:=#[.int .i8 (IntKind.i8.wrap (a0_0 - 1)),.int .i8 a0_1,.int .i8 a0_2,.int .i8 a0_3]) ?_ 2 _ rfl;(with_reducible repeat (first|apply kN_|apply kD_|apply kA_));refine blk_put (cs:=#[.int .i8 a0_0,.int .i8 a0_1,.int .i8 a0_2,.int .i8 a0_3]) ?_ 0 _ rfl;(with_reducible repeat (first|apply kN_|apply kD_|apply kA_));exact BK384.out⟩
   have n3_ : Aside0 (((w54.setCell ⟨gb384,0,none⟩ (.int .i8 (IntKind.i8.wrap (a0_0 - 1)))).setCell ⟨gb384,2,none⟩ (.int .i8 (IntKind.i8.wrap (a0_2 + 2)))).heap[gb385]? = some (.cells #[.int .i8 a0_0,.int .i8 a0_1,.int .i8 a0_2,.int .i8 a0_3] 38 (0,0))):=⟨by (with_reducible repeat (first|apply kN_|apply kD_|apply kA_));refine blk_far ?_ NB385_384.out _;(with_reducible repeat (first|apply kN_|apply kD_|apply kA_));refine blk_far ?_ NB385_384.out _;(with_reducible repeat (first|apply kN_|apply kD_|apply kA_));exact BK385.out⟩
   have n4_ : Aside0 (Below w.heap.size w ((w54.setCell ⟨gb384,0,none⟩ (.int .i8 (IntKind.i8.wrap (a0_0 - 1)))).setCell ⟨gb384,2,none⟩ (.int .i8 (IntKind.i8.wrap (a0_2 + 2))))):=⟨by repeat (first|(with_reducible first|exact HB.out|apply bA_|apply bN_|apply bD_|refine bS_ ?_ GE382.out|refine bS_ ?_ GE383.out|refine bS_ ?_ GE384.out|refine bS_ ?_ GE385.out)|exact HB.out)⟩
   (try clear BK382);(try clear BK383);(try clear BK384);(try clear BK385);(try clear HB);generalize ((w54.setCell ⟨gb384,0,none⟩ (.int .i8 (IntKind.i8.wrap (a0_0 - 1)))).setCell ⟨gb384,2,none⟩ (.int .i8 (IntKind.i8.wrap (a0_2 + 2)))) = w57 at n0_ n1_ n2_ n3_ n4_ ⊢;have BK382:=n0_;have BK383:=n1_;have BK384:=n2_;have BK385:=n3_;have HB:=n4_;clear n0_ n1_ n2_ n3_ n4_;have n0_:=am_ (kD_ BK382.out);have n1_:=am_ (kD_ BK383.out);have n2_:=am_ (kD_ BK384.out);have n3_:=am_ (kD_ BK385.out);have n4_:=am_ (bD_ HB.out);clear BK382;clear BK383;clear BK384;clear BK385;clear HB;have BK382:=n0_;have BK383:=n1_;have BK384:=n2_;have BK385:=n3_;have HB:=n4_;clear n0_ n1_ n2_ n3_ n4_;refine start_ (n:=10) (S:=fun w'=>w'.cell? ⟨gb382,0,none⟩ = some (.int .i8 a0_0) ∧ w'.cell? ⟨gb382,1,none⟩ = some (.int .i8 a0_1) ∧ w'.cell? ⟨gb382,2,none⟩ = some (.int .i8 a0_2) ∧ w'.cell? ⟨gb382,3,none⟩ = some (.int .i8 a0_3)) (ds:=[]) (mB_ 10 0) (by kernel_rfl) rfl rfl ⟨(kC_ BK382.out 0).trans rfl,(kC_ BK382.out 1).trans rfl,(kC_ BK382.out 2).trans rfl,(kC_ BK382.out 3).trans rfl⟩ (fun hHeld=>?_);refine with_tabW impl_areBeside.tab3 impl_areBeside.bits3 (fun HT_ HW_=>?_);generalize w57.drew = w58 at BK382 BK383 BK384 BK385 HB hHeld ⊢;refine pure_ (i:=0) (N:=some 17) (v:=?_) (a':=?_) (mB_ 10 1) rfl rfl (any_of HT_.out (by kernel_rfl)) (fun _ _ _ h=>h) (Or.inl ⟨by rfl,?_⟩) ?_ ?_;rotate_left
   ·
    intro w'
    go_simp
    with_reducible rfl
   rotate_left
   ·
    simp only [Act.put,z1_,z2_,z3_,i64_w,i32_w]
    rfl
   refine pure_ (i:=3) (N:=some 20) (v:=?_) (a':=?_) (mB_ 10 9) rfl rfl (any_of HT_.out (by kernel_rfl)) (fun _ _ _ h=>h) (Or.inl ⟨by rfl,?_⟩) ?_ ?_;rotate_left
   ·
    intro w'
    go_simp
    with_reducible rfl
   rotate_left
   ·
    simp only [Act.put,z1_,z2_,z3_,i64_w,i32_w]
    rfl
   refine take_ (i:=1) (N:=some 18) (v:=?_) (a':=?_) (mB_ 10 11) rfl rfl (take_ofW HT_.out HW_.out (by kernel_rfl)) (fun _ _ _ h=>h) (Or.inl ⟨by rfl,?_⟩) hHeld ?_ ?_;rotate_left
   ·
    rintro w' ⟨s0,s1,s2,s3⟩
    go_simp
    with_reducible rfl
   rotate_left
   ·
    simp only [Act.put,z1_,z2_,z3_,i64_w,i32_w]
    rfl
   refine pure_ (i:=2) (N:=some 19) (v:=?_) (a':=?_) (mB_ 10 15) rfl rfl (any_of HT_.out (by kernel_rfl)) (fun _ _ _ h=>h) (Or.inl ⟨by rfl,?_⟩) ?_ ?_;rotate_left
   ·
    intro w'
    go_simp
    with_reducible rfl
   rotate_left
   ·
    simp only [Act.put,z1_,z2_,z3_,i64_w,i32_w]
    rfl
   refine pure_ (i:=6) (N:=some 23) (v:=?_) (a':=?_) (mB_ 10 79) rfl rfl (any_of HT_.out (by kernel_rfl)) (fun _ _ _ h=>h) (Or.inl ⟨by rfl,?_⟩) ?_ ?_;rotate_left
   ·
    intro w'
    go_simp
    with_reducible rfl
   rotate_left
   ·
    simp only [Act.put,z1_,z2_,z3_,i64_w,i32_w]
    rfl
   refine take_ (i:=4) (N:=some 21) (v:=?_) (a':=?_) (mB_ 10 95) rfl rfl (take_ofW HT_.out HW_.out (by kernel_rfl)) (fun _ _ _ h=>h) (Or.inl ⟨by rfl,?_⟩) hHeld ?_ ?_;rotate_left
   ·
    rintro w' ⟨s0,s1,s2,s3⟩
    go_simp
    with_reducible rfl
   rotate_left
   ·
    simp only [Act.put,z1_,z2_,z3_,i64_w,i32_w]
    rfl
   refine pure_ (i:=5) (N:=some 22) (v:=?_) (a':=?_) (mB_ 10 127) rfl rfl (any_of HT_.out (by kernel_rfl)) (fun _ _ _ h=>h) (Or.inl ⟨by rfl,?_⟩) ?_ ?_;rotate_left
   ·
    intro w'
    go_simp
    with_reducible rfl
   rotate_left
   ·
    simp only [Act.put,z1_,z2_,z3_,i64_w,i32_w]
    rfl
   refine one_ (i:=7) (N:=none) (mB_ 10 255) rfl rfl (one_of HT_.out (by kernel_rfl)) (by decide) (fun K hK=>?_);have hs59 : w58.cell? ⟨gb385,1,none⟩ = some (.int .i8 a0_1):=(kC_ BK385.out 1).trans rfl;have hfs59:=kF_ BK385.out 1;have hns59_0:=NB382_385.out;have hns59_1:=NB383_385.out;have hns59_2:=NB384_385.out;have hms59_0:=NB385_382.out;have hms59_1:=NB385_383.out;have hms59_2:=NB385_384.out;refine skip_ (w1:=?_) (by rfl) rfl ?_ ?_;rotate_left
   ·
    go_simp
    rfl
   refine hK.out _ _ ⟨((cell_far (p:=⟨gb385,_,none⟩) NB382_385.out _).trans (hHeld.1)),((cell_far (p:=⟨gb385,_,none⟩) NB382_385.out _).trans (hHeld.2.1)),((cell_far (p:=⟨gb385,_,none⟩) NB382_385.out _).trans (hHeld.2.2.1)),((cell_far (p:=⟨gb385,_,none⟩) NB382_385.out _).trans (hHeld.2.2.2))⟩ (fun hHeld=>?_);clear hK K;refine pure_ (i:=8) (N:=some 24) (v:=?_) (a':=?_) (mB_ 10 511) rfl rfl (any_of HT_.out (by kernel_rfl)) (fun _ _ _ h=>h) (Or.inl ⟨by rfl,?_⟩) ?_ ?_;rotate_left
   ·
    intro w'
    go_simp
    with_reducible rfl
   rotate_left
   ·
    simp only [Act.put,z1_,z2_,z3_,i64_w,i32_w]
    rfl
   refine one_ (i:=9) (N:=none) (mB_ 10 1023) rfl rfl (one_of HT_.out (by kernel_rfl)) (by decide) (fun K hK=>?_);have hs60 : w58.cell? ⟨gb385,3,none⟩ = some (.int .i8 a0_3):=(kC_ BK385.out 3).trans rfl;have hfs60:=kF_ BK385.out 3;have hns60_0:=NB382_385.out;have hns60_1:=NB383_385.out;have hns60_2:=NB384_385.out;have hms60_0:=NB385_382.out;have hms60_1:=NB385_383.out;have hms60_2:=NB385_384.out;refine skip_ (w1:=?_) (by rfl) rfl ?_ ?_;rotate_left
   ·
    go_simp
    rfl
   refine hK.out _ _ ⟨((cell_far (p:=⟨gb385,_,none⟩) NB382_385.out _).trans (hHeld.1)),((cell_far (p:=⟨gb385,_,none⟩) NB382_385.out _).trans (hHeld.2.1)),((cell_far (p:=⟨gb385,_,none⟩) NB382_385.out _).trans (hHeld.2.2.1)),((cell_far (p:=⟨gb385,_,none⟩) NB382_385.out _).trans (hHeld.2.2.2))⟩ (fun hHeld=>?_);clear hK K;refine done_ (done_of HT_.out (by kernel_rfl)) ?_;have hnb61:=NB382_383.out;have hnc61:=NB383_382.out;have hnb62:=NB382_384.out;have hnc62:=NB384_382.out;have hnb63:=NB382_385.out;have hnc63:=NB385_382.out;have hcz64_0 : w58.cell? ⟨gb382,0,none⟩ = some (.int .i8 a0_0):=(kC_ BK382.out 0).trans rfl;have hcz64_1 : w58.cell? ⟨gb382,1,none⟩ = some (.int .i8 a0_1):=(kC_ BK382.out 1).trans rfl;have hcz64_2 : w58.cell? ⟨gb382,2,none⟩ = some (.int .i8 a0_2):=(kC_ BK382.out 2).trans rfl;have hcz64_3 : w58.cell? ⟨gb382,3,none⟩ = some (.int .i8 a0_3):=(kC_ BK382.out 3).trans rfl;have hfz64_0:=kF_ BK382.out 0;have hfz64_1:=kF_ BK382.out 1;have hfz64_2:=kF_ BK382.out 2;have hfz64_3:=kF_ BK382.out 3;have hnb65:=NB383_384.out;have hnc65:=NB384_383.out;have hnb66:=NB383_385.out;have hnc66:=NB385_383.out;have hcz67_0 : w58.cell? ⟨gb383,0,none⟩ = some (.int .i8 a1_0):=(kC_ BK383.out 0).trans rfl;have hcz67_1 : w58.cell? ⟨gb383,1,none⟩ = some (.int .i8 a1_1):=(kC_ BK383.out 1).trans rfl;have hcz67_2 : w58.cell? ⟨gb383,2,none⟩ = some (.int .i8 a1_2):=(kC_ BK383.out 2).trans rfl;have hcz67_3 : w58.cell? ⟨gb383,3,none⟩ = some (.int .i8 a1_3):=(kC_ BK383.out 3).trans rfl;have hfz67_0:=kF_ BK383.out 0;have hfz67_1:=kF_ BK383.out 1;have hfz67_2:=kF_ BK383.out 2;have hfz67_3:=kF_ BK383.out 3;have hnb68:=NB384_385.out;have hnc68:=NB385_384.out;have hcz69_0 : w58.cell? ⟨gb384,0,none⟩ = some (.int .i8 (IntKind.i8.wrap (a0_0 - 1))):=(kC_ BK384.out 0).trans rfl;have hcz69_1 : w58.cell? ⟨gb384,1,none⟩ = some (.int .i8 a0_1):=(kC_ BK384.out 1).trans rfl;have hcz69_2 : w58.cell? ⟨gb384,2,none⟩ = some (.int .i8 (IntKind.i8.wrap (a0_2 + 2))):=(kC_ BK384.out 2).trans rfl;have hcz69_3 : w58.cell? ⟨gb384,3,none⟩ = some (.int .i8 a0_3):=(kC_ BK384.out 3).trans rfl;have hfz69_0:=kF_ BK384.out 0;have hfz69_1:=kF_ BK384.out 1;have hfz69_2:=kF_ BK384.out 2;have hfz69_3:=kF_ BK384.out 3
   try go_wp2_with (first|(go_at_call 46;(with_reducible refine (impl_Slab_meets.calls (IntKind.i8.wrap (a0_0 - 1)) a0_1 (IntKind.i8.wrap (a0_2 + 2)) a0_3 a1_0 a1_1 a1_2 a1_3 false _ A4.out).mono ?_);rintro e w70 ⟨rfl,hb⟩;have n0_:=am_ (blk_below (g:=gb382) (o:=.cells #[.int .i8 a0_0,.int .i8 a0_1,.int .i8 a0_2,.int .i8 a0_3] 38 (0,0)) (by (with_reducible repeat (first|apply kN_|apply kD_|apply kA_));refine blk_far ?_ NB382_385.out _;(with_reducible repeat (first|apply kN_|apply kD_|apply kA_));refine blk_far ?_ NB382_385.out _;(with_reducible repeat (first|apply kN_|apply kD_|apply kA_));exact BK382.out) hb);have n1_:=am_ (blk_below (g:=gb383) (o:=.cells #[.int .i8 a1_0,.int .i8 a1_1,.int .i8 a1_2,.int .i8 a1_3] 38 (0,0)) (by (with_reducible repeat (first|apply kN_|apply kD_|apply kA_));refine blk_far ?_ NB383_385.out _;(with_reducible repeat (first|apply kN_|apply kD_|apply kA_));refine blk_far ?_ NB383_385.out _;(with_reducible repeat (first|apply kN_|apply kD_|apply kA_));exact BK383.out) hb);have n2_:=am_ (blk_below (g:=gb384) (o:=.cells #[.int .i8 (IntKind.i8.wrap (a0_0 - 1)),.int .i8 a0_1,.int .i8 (IntKind.i8.wrap (a0_2 + 2)),.int .i8 a0_3] 38 (0,0)) (by (with_reducible repeat (first|apply kN_|apply kD_|apply kA_));refine blk_far ?_ NB384_385.out _;(with_reducible repeat (first|apply kN_|apply kD_|apply kA_));refine blk_far ?_ NB384_385.out _;(with_reducible repeat (first|apply kN_|apply kD_|apply kA_));exact BK384.out) hb);have n3_:=am_ (blk_below (g:=gb385) (o:=.cells #[.int .i8 a0_0,.int .i8 (IntKind.i8.wrap (a0_1 - 1)),.int .i8 a0_2,.int .i8 (IntKind.i8.wrap (a0_3 + 2))] 38 (0,0)) (by (with_reducible repeat (first|apply kN_|apply kD_|apply kA_));refine blk_put (cs:=#[.int .i8 a0_0,.int .i8 (IntKind.i8.wrap (a0_1 - 1)),.int .i8 a0_2,.int .i8 a0_3]) ?_ 3 _ rfl;(with_reducible repeat (first|apply kN_|apply kD_|apply kA_));refine blk_put (cs:=#[.int .i8 a0_0,.int .i8 a0_1,.int .i8 a0_2,.int .i8 a0_3]) ?_ 1 _ rfl;(with_reducible repeat (first|apply kN_|apply kD_|apply kA_));exact BK385.out) hb);have n4_:=am_ (bT_ (by repeat (first|(with_reducible first|exact HB.out|apply bA_|apply bN_|apply bD_|refine bS_ ?_ GE382.out|refine bS_ ?_ GE383.out|refine bS_ ?_ GE384.out|refine bS_ ?_ GE385.out)|exact HB.out)) hb);clear BK382;clear BK383;clear BK384;clear BK385;clear HB;have BK382:=n0_;have BK383:=n1_;have BK384:=n2_;have BK385:=n3_;have HB:=n4_;clear n0_ n1_ n2_ n3_ n4_;(try clear hb);(try clear hb2);(try clear hk);(try clear hi);have hcz71_0 : w70.cell? ⟨gb385,0,none⟩ = some (.int .i8 a0_0):=(kC_ BK385.out 0).trans rfl;have hcz71_1 : w70.cell? ⟨gb385,1,none⟩ = some (.int .i8 (IntKind.i8.wrap (a0_1 - 1))):=(kC_ BK385.out 1).trans rfl;have hcz71_2 : w70.cell? ⟨gb385,2,none⟩ = some (.int .i8 a0_2):=(kC_ BK385.out 2).trans rfl;have hcz71_3 : w70.cell? ⟨gb385,3,none⟩ = some (.int .i8 (IntKind.i8.wrap (a0_3 + 2))):=(kC_ BK385.out 3).trans rfl;have hfz71_0:=kF_ BK385.out 0;have hfz71_1:=kF_ BK385.out 1;have hfz71_2:=kF_ BK385.out 2;have hfz71_3:=kF_ BK385.out 3;have hcz72_0 : w70.cell? ⟨gb383,0,none⟩ = some (.int .i8 a1_0):=(kC_ BK383.out 0).trans rfl;have hcz72_1 : w70.cell? ⟨gb383,1,none⟩ = some (.int .i8 a1_1):=(kC_ BK383.out 1).trans rfl;have hcz72_2 : w70.cell? ⟨gb383,2,none⟩ = some (.int .i8 a1_2):=(kC_ BK383.out 2).trans rfl;have hcz72_3 : w70.cell? ⟨gb383,3,none⟩ = some (.int .i8 a1_3):=(kC_ BK383.out 3).trans rfl;have hfz72_0:=kF_ BK383.out 0;have hfz72_1:=kF_ BK383.out 1;have hfz72_2:=kF_ BK383.out 2;have hfz72_3:=kF_ BK383.out 3)|(go_at_call 46;(with_reducible refine (impl_Slab_meets.calls a0_0 (IntKind.i8.wrap (a0_1 - 1)) a0_2 (IntKind.i8.wrap (a0_3 + 2)) a1_0 a1_1 a1_2 a1_3 t387 _ A38.out).mono ?_);rintro e w73 ⟨rfl,hb⟩;have n0_:=am_ (blk_below (g:=gb382) (o:=.cells #[.int .i8 a0_0,.int .i8 a0_1,.int .i8 a0_2,.int .i8 a0_3] 38 (0,0)) (by (with_reducible repeat (first|apply kN_|apply kD_|apply kA_));exact BK382.out) hb);have n1_:=am_ (blk_below (g:=gb383) (o:=.cells #[.int .i8 a1_0,.int .i8 a1_1,.int .i8 a1_2,.int .i8 a1_3] 38 (0,0)) (by (with_reducible repeat (first|apply kN_|apply kD_|apply kA_));exact BK383.out) hb);have n2_:=am_ (blk_below (g:=gb384) (o:=.cells #[.int .i8 (IntKind.i8.wrap (a0_0 - 1)),.int .i8 a0_1,.int .i8 (IntKind.i8.wrap (a0_2 + 2)),.int .i8 a0_3] 38 (0,0)) (by (with_reducible repeat (first|apply kN_|apply kD_|apply kA_));exact BK384.out) hb);have n3_:=am_ (blk_below (g:=gb385) (o:=.cells #[.int .i8 a0_0,.int .i8 (IntKind.i8.wrap (a0_1 - 1)),.int .i8 a0_2,.int .i8 (IntKind.i8.wrap (a0_3 + 2))] 38 (0,0)) (by (with_reducible repeat (first|apply kN_|apply kD_|apply kA_));exact BK385.out) hb);have n4_:=am_ (bT_ (by repeat (first|(with_reducible first|exact HB.out|apply bA_|apply bN_|apply bD_|refine bS_ ?_ GE382.out|refine bS_ ?_ GE383.out|refine bS_ ?_ GE384.out|refine bS_ ?_ GE385.out)|exact HB.out)) hb);clear BK382;clear BK383;clear BK384;clear BK385;clear HB;have BK382:=n0_;have BK383:=n1_;have BK384:=n2_;have BK385:=n3_;have HB:=n4_;clear n0_ n1_ n2_ n3_ n4_;(try clear hb);(try clear hb2);(try clear hk);(try clear hi)))
   go_ret
   exact ⟨by first|rfl|(simp [errW_none,errW_some] <;> rfl)|(simp [*,errW_none,errW_some] <;> rfl),by repeat (first|(with_reducible first|exact HB.out|apply bA_|apply bN_|apply bD_|refine bS_ ?_ GE382.out|refine bS_ ?_ GE383.out|refine bS_ ?_ GE384.out|refine bS_ ?_ GE385.out)|exact HB.out)⟩
 ·
  rw [if_neg c3] at H;have c3b0 : (!(a0_0 == a1_0) ||(!(a0_1 == a1_1) ||(!(a0_2 == a1_2) ||(!(a0_3 == a1_3))))) = false:=by simpa using c3
  clear c3;obtain rfl:=Option.some.inj H
  go_enter Try.func91,Try.ntmps91
  try go_wp2_with (first|((with_reducible refine gate_dst (N:=2) rfl ?_);refine box_event ?hg (N:=2) ?hd (cs:=#[.int .i8 a0_0,.int .i8 a0_1,.int .i8 a0_2,.int .i8 a0_3]) (t:=38) ?hr ?_;(case hd=>rfl);(case hg=>rfl);(case hr=>first|(go_simp;done)|(go_simp;rfl));intro gb382 hg w74 hbox hb;have n0_:=am_ (bT_ (by repeat (first|(with_reducible first|exact HB.out|apply bA_|apply bN_|apply bD_)|exact HB.out)) hb);have n1_:=am_ (hbox);have n2_:=am_ ((by rw [hg];exact (below_size (by repeat (first|(with_reducible first|exact HB.out|apply bA_|apply bN_|apply bD_)|exact HB.out))) : w.heap.size≤gb382));have n3_:=n2_;clear HB;have HB:=n0_;have BK382:=n1_;have GW382:=n2_;have GE382:=n3_;clear n0_ n1_ n2_ n3_;clear hb hbox hg)|((with_reducible refine gate_dst (N:=3) rfl ?_);refine box_event ?hg (N:=3) ?hd (cs:=#[.int .i8 a1_0,.int .i8 a1_1,.int .i8 a1_2,.int .i8 a1_3]) (t:=38) ?hr ?_;(case hd=>rfl);(case hg=>rfl);(case hr=>first|(go_simp;done)|(go_simp;rfl));intro gb383 hg w75 hbox hb;have n0_:=am_ (blk_below (g:=gb382) (o:=.cells #[.int .i8 a0_0,.int .i8 a0_1,.int .i8 a0_2,.int .i8 a0_3] 38 (0,0)) (by (with_reducible repeat (first|apply kN_|apply kD_|apply kA_));exact BK382.out) hb);have n1_:=am_ (bT_ (by repeat (first|(with_reducible first|exact HB.out|apply bA_|apply bN_|apply bD_|refine bS_ ?_ GE382.out)|exact HB.out)) hb);have n2_:=am_ (hbox);have n3_:=am_ ((by rw [hg];exact (below_size (by repeat (first|(with_reducible first|exact HB.out|apply bA_|apply bN_|apply bD_|refine bS_ ?_ GE382.out)|exact HB.out))) : w.heap.size≤gb383));have n4_:=n3_;have n5_:=am_ ((by rw [hg];exact Nat.ne_of_lt (blk_lt (g:=gb382) (o:=.cells #[.int .i8 a0_0,.int .i8 a0_1,.int .i8 a0_2,.int .i8 a0_3] 38 (0,0)) (by (with_reducible repeat (first|apply kN_|apply kD_|apply kA_));exact BK382.out)) : gb382 ≠ gb383));have n6_:=am_ ((by rw [hg];exact Nat.ne_of_gt (blk_lt (g:=gb382) (o:=.cells #[.int .i8 a0_0,.int .i8 a0_1,.int .i8 a0_2,.int .i8 a0_3] 38 (0,0)) (by (with_reducible repeat (first|apply kN_|apply kD_|apply kA_));exact BK382.out)) : gb383 ≠ gb382));clear BK382;clear HB;have BK382:=n0_;have HB:=n1_;have BK383:=n2_;have GW383:=n3_;have GE383:=n4_;have NB382_383:=n5_;have NB383_382:=n6_;clear n0_ n1_ n2_ n3_ n4_ n5_ n6_;clear hb hbox hg))
  have n0_:=am_ (kD_ BK382.out);have n1_:=am_ (kD_ BK383.out);have n2_:=am_ (bD_ HB.out);clear BK382;clear BK383;clear HB;have BK382:=n0_;have BK383:=n1_;have HB:=n2_;clear n0_ n1_ n2_;refine start_ (n:=6) (S:=fun w'=>w'.cell? ⟨gb382,0,none⟩ = some (.int .i8 a0_0) ∧ w'.cell? ⟨gb382,1,none⟩ = some (.int .i8 a0_1) ∧ w'.cell? ⟨gb382,2,none⟩ = some (.int .i8 a0_2) ∧ w'.cell? ⟨gb382,3,none⟩ = some (.int .i8 a0_3)) (ds:=[]) (mB_ 6 0) (by kernel_rfl) rfl rfl ⟨(kC_ BK382.out 0).trans rfl,(kC_ BK382.out 1).trans rfl,(kC_ BK382.out 2).trans rfl,(kC_ BK382.out 3).trans rfl⟩ (fun hHeld=>?_);generalize w75.drew = w76 at BK382 BK383 HB hHeld ⊢;refine take_ (i:=0) (N:=some 7) (v:=?_) (a':=?_) (mB_ 6 1) rfl rfl (by kernel_rfl) (fun _ _ _ h=>h) (Or.inl ⟨by rfl,?_⟩) hHeld ?_ ?_;rotate_left
  ·
   rintro w' ⟨s0,s1,s2,s3⟩
   go_simp
   with_reducible rfl
  rotate_left
  ·
   simp only [Act.put,z1_,z2_,z3_,i64_w,i32_w]
   rfl
  refine take_ (i:=1) (N:=some 8) (v:=?_) (a':=?_) (mB_ 6 3) rfl rfl (by kernel_rfl) (fun _ _ _ h=>h) (Or.inl ⟨by rfl,?_⟩) hHeld ?_ ?_;rotate_left
  ·
   rintro w' ⟨s0,s1,s2,s3⟩
   go_simp
   with_reducible rfl
  rotate_left
  ·
   simp only [Act.put,z1_,z2_,z3_,i64_w,i32_w]
   rfl
  refine join_ (σ:=Nat × Nat) 2 (mB_ 6 15) (fun s_=>[(5,.pointer (some ⟨s_.1,0,none⟩)),(6,.pointer (some ⟨s_.2,0,none⟩))]) (fun s_ w'=>(w'.cell? ⟨gb382,0,none⟩ = some (.int .i8 a0_0) ∧ w'.cell? ⟨gb382,1,none⟩ = some (.int .i8 a0_1) ∧ w'.cell? ⟨gb382,2,none⟩ = some (.int .i8 a0_2) ∧ w'.cell? ⟨gb382,3,none⟩ = some (.int .i8 a0_3)) ∧ (w'.heap[gb382]? = some (.cells #[.int .i8 a0_0,.int .i8 a0_1,.int .i8 a0_2,.int .i8 a0_3] 38 (0,0))) ∧ (w'.heap[gb383]? = some (.cells #[.int .i8 a1_0,.int .i8 a1_1,.int .i8 a1_2,.int .i8 a1_3] 38 (0,0))) ∧ (w'.heap[s_.1]? = some (.cells #[.int .i8 0,.int .i8 0,.int .i8 0,.int .i8 0] 38 (0,0))) ∧ (w'.heap[s_.2]? = some (.cells #[.int .i8 0,.int .i8 0,.int .i8 0,.int .i8 0] 38 (0,0))) ∧ (w.heap.size≤s_.1) ∧ (w.heap.size≤s_.1) ∧ (gb382 ≠ s_.1) ∧ (s_.1 ≠ gb382) ∧ (gb383 ≠ s_.1) ∧ (s_.1 ≠ gb383) ∧ (s_.2 ≠ s_.1) ∧ (s_.1 ≠ s_.2) ∧ (w.heap.size≤s_.2) ∧ (w.heap.size≤s_.2) ∧ (gb382 ≠ s_.2) ∧ (s_.2 ≠ gb382) ∧ (gb383 ≠ s_.2) ∧ (s_.2 ≠ gb383) ∧ (Below w.heap.size w w')) ?_ ?_;rotate_left
  ·
   intro hCont;refine two_ (i:=2) (j:=3) (Ni:=some 5) (Nj:=some 6) (mB_ 6 7) (mB_ 6 11) rfl rfl rfl rfl (by kernel_rfl) (by decide) (by decide) (fun K hK=>?_) (fun K hK=>?_)
   ·
    skip
    refine box_step ?hg (N:=5) ?hd (cs:=#[.int .i8 0,.int .i8 0,.int .i8 0,.int .i8 0]) (t:=38) ?hr ?_;(case hd=>rfl);(case hg=>rfl);(case hr=>first|(go_simp;done)|(go_simp;rfl));intro gb384 hg w77 hbox hb;have n0_:=am_ (blk_below (g:=gb382) (o:=.cells #[.int .i8 a0_0,.int .i8 a0_1,.int .i8 a0_2,.int .i8 a0_3] 38 (0,0)) (by (with_reducible repeat (first|apply kN_|apply kD_|apply kA_));exact BK382.out) hb);have n1_:=am_ (blk_below (g:=gb383) (o:=.cells #[.int .i8 a1_0,.int .i8 a1_1,.int .i8 a1_2,.int .i8 a1_3] 38 (0,0)) (by (with_reducible repeat (first|apply kN_|apply kD_|apply kA_));exact BK383.out) hb);have n2_:=am_ (bT_ (by repeat (first|(with_reducible first|exact HB.out|apply bA_|apply bN_|apply bD_|refine bS_ ?_ GE382.out|refine bS_ ?_ GE383.out)|exact HB.out)) hb);have n3_:=am_ (hbox);have n4_:=am_ ((by rw [hg];exact (below_size (by repeat (first|(with_reducible first|exact HB.out|apply bA_|apply bN_|apply bD_|refine bS_ ?_ GE382.out|refine bS_ ?_ GE383.out)|exact HB.out))) : w.heap.size≤gb384));have n5_:=am_ ((by rw [hg];exact (below_size (by repeat (first|(with_reducible first|exact HB.out|apply bA_|apply bN_|apply bD_|refine bS_ ?_ GE382.out|refine bS_ ?_ GE383.out)|exact HB.out))) : w.heap.size≤gb384));have n6_:=am_ ((by rw [hg];exact Nat.ne_of_lt (blk_lt (g:=gb382) (o:=.cells #[.int .i8 a0_0,.int .i8 a0_1,.int .i8 a0_2,.int .i8 a0_3] 38 (0,0)) (by (with_reducible repeat (first|apply kN_|apply kD_|apply kA_));exact BK382.out)) : gb382 ≠ gb384));have n7_:=am_ ((by rw [hg];exact Nat.ne_of_gt (blk_lt (g:=gb382) (o:=.cells #[.int .i8 a0_0,.int .i8 a0_1,.int .i8 a0_2,.int .i8 a0_3] 38 (0,0)) (by (with_reducible repeat (first|apply kN_|apply kD_|apply kA_));exact BK382.out)) : gb384 ≠ gb382));have n8_:=am_ ((by rw [hg];exact Nat.ne_of_lt (blk_lt (g:=gb383) (o:=.cells #[.int .i8 a1_0,.int .i8 a1_1,.int .i8 a1_2,.int .i8 a1_3] 38 (0,0)) (by (with_reducible repeat (first|apply kN_|apply kD_|apply kA_));exact BK383.out)) : gb383 ≠ gb384));have n9_:=am_ ((by rw [hg];exact Nat.ne_of_gt (blk_lt (g:=gb383) (o:=.cells #[.int .i8 a1_0,.int .i8 a1_1,.int .i8 a1_2,.int .i8 a1_3] 38 (0,0)) (by (with_reducible repeat (first|apply kN_|apply kD_|apply kA_));exact BK383.out)) : gb384 ≠ gb383));clear BK382;clear BK383;clear HB;have BK382:=n0_;have BK383:=n1_;have HB:=n2_;have BK384:=n3_;have GW384:=n4_;have GE384:=n5_;have NB382_384:=n6_;have NB384_382:=n7_;have NB383_384:=n8_;have NB384_383:=n9_;clear n0_ n1_ n2_ n3_ n4_ n5_ n6_ n7_ n8_ n9_;clear hb hbox hg;refine hK.out _ _ ⟨(kC_ BK382.out 0).trans rfl,(kC_ BK382.out 1).trans rfl,(kC_ BK382.out 2).trans rfl,(kC_ BK382.out 3).trans rfl⟩ (fun hHeld=>?_);clear hK K;refine norm_ (a':=?_) ?_ ?_;rotate_left
    ·
     show Act.put _ (some 5) _ = _
     simp only [Act.put,z1_,z2_,z3_,i64_w,i32_w]
     rfl
    refine one_ (i:=3) (N:=some 6) (mB_ 6 15) rfl rfl (by kernel_rfl) (by decide) (fun K hK=>?_);refine box_step ?hg (N:=6) ?hd (cs:=#[.int .i8 0,.int .i8 0,.int .i8 0,.int .i8 0]) (t:=38) ?hr ?_;(case hd=>rfl);(case hg=>rfl);(case hr=>first|(go_simp;done)|(go_simp;rfl));intro gb385 hg w78 hbox hb;have n0_:=am_ (blk_below (g:=gb382) (o:=.cells #[.int .i8 a0_0,.int .i8 a0_1,.int .i8 a0_2,.int .i8 a0_3] 38 (0,0)) (by (with_reducible repeat (first|apply kN_|apply kD_|apply kA_));exact BK382.out) hb);have n1_:=am_ (blk_below (g:=gb383) (o:=.cells #[.int .i8 a1_0,.int .i8 a1_1,.int .i8 a1_2,.int .i8 a1_3] 38 (0,0)) (by (with_reducible repeat (first|apply kN_|apply kD_|apply kA_));exact BK383.out) hb);have n2_:=am_ (blk_below (g:=gb384) (o:=.cells #[.int .i8 0,.int .i8 0,.int .i8 0,.int .i8 0] 38 (0,0)) (by (with_reducible repeat (first|apply kN_|apply kD_|apply kA_));exact BK384.out) hb);have n3_:=am_ (bT_ (by repeat (first|(with_reducible first|exact HB.out|apply bA_|apply bN_|apply bD_|refine bS_ ?_ GE382.out|refine bS_ ?_ GE383.out|refine bS_ ?_ GE384.out)|exact HB.out)) hb);have n4_:=am_ (hbox);have n5_:=am_ ((by rw [hg];exact (below_size (by repeat (first|(with_reducible first|exact HB.out|apply bA_|apply bN_|apply bD_|refine bS_ ?_ GE382.out|refine bS_ ?_ GE383.out|refine bS_ ?_ GE384.out)|exact HB.out))) : w.heap.size≤gb385));have n6_:=am_ ((by rw [hg];exact (below_size (by repeat (first|(with_reducible first|exact HB.out|apply bA_|apply bN_|apply bD_|refine bS_ ?_ GE382.out|refine bS_ ?_ GE383.out|refine bS_ ?_ GE384.out)|exact HB.out))) : w.heap.size≤gb385));have n7_:=am_ ((by rw [hg];exact Nat.ne_of_lt (blk_lt (g:=gb382) (o:=.cells #[.int .i8 a0_0,.int .i8 a0_1,.int .i8 a0_2,.int .i8 a0_3] 38 (0,0)) (by (with_reducible repeat (first|apply kN_|apply kD_|apply kA_));exact BK382.out)) : gb382 ≠ gb385));have n8_:=am_ ((by rw [hg];exact Nat.ne_of_gt (blk_lt (g:=gb382) (o:=.cells #[.int .i8 a0_0,.int .i8 a0_1,.int .i8 a0_2,.int .i8 a0_3] 38 (0,0)) (by (with_reducible repeat (first|apply kN_|apply kD_|apply kA_));exact BK382.out)) : gb385 ≠ gb382));have n9_:=am_ ((by rw [hg];exact Nat.ne_of_lt (blk_lt (g:=gb383) (o:=.cells #[.int .i8 a1_0,.int .i8 a1_1,.int .i8 a1_2,.int .i8 a1_3] 38 (0,0)) (by (with_reducible repeat (first|apply kN_|apply kD_|apply kA_));exact BK383.out)) : gb383 ≠ gb385));have n10_:=am_ ((by rw [hg];exact Nat.ne_of_gt (blk_lt (g:=gb383) (o:=.cells #[.int .i8 a1_0,.int .i8 a1_1,.int .i8 a1_2,.int .i8 a1_3] 38 (0,0)) (by (with_reducible repeat (first|apply kN_|apply kD_|apply kA_));exact BK383.out)) : gb385 ≠ gb383));have n11_:=am_ ((by rw [hg];exact Nat.ne_of_lt (blk_lt (g:=gb384) (o:=.cells #[.int .i8 0,.int .i8 0,.int .i8 0,.int .i8 0] 38 (0,0)) (by (with_reducible repeat (first|apply kN_|apply kD_|apply kA_));exact BK384.out)) : gb384 ≠ gb385));have n12_:=am_ ((by rw [hg];exact Nat.ne_of_gt (blk_lt (g:=gb384) (o:=.cells #[.int .i8 0,.int .i8 0,.int .i8 0,.int .i8 0] 38 (0,0)) (by (with_reducible repeat (first|apply kN_|apply kD_|apply kA_));exact BK384.out)) : gb385 ≠ gb384));clear BK382;clear BK383;clear BK384;clear HB;have BK382:=n0_;have BK383:=n1_;have BK384:=n2_;have HB:=n3_;have BK385:=n4_;have GW385:=n5_;have GE385:=n6_;have NB382_385:=n7_;have NB385_382:=n8_;have NB383_385:=n9_;have NB385_383:=n10_;have NB384_385:=n11_;have NB385_384:=n12_;clear n0_ n1_ n2_ n3_ n4_ n5_ n6_ n7_ n8_ n9_ n10_ n11_ n12_;clear hb hbox hg;refine hK.out _ _ ⟨(kC_ BK382.out 0).trans rfl,(kC_ BK382.out 1).trans rfl,(kC_ BK382.out 2).trans rfl,(kC_ BK382.out 3).trans rfl⟩ (fun hHeld=>?_);clear hK K;refine norm_ (a':=?_) ?_ ?_;rotate_left
    ·
     show Act.put _ (some 6) _ = _
     simp only [Act.put,z1_,z2_,z3_,i64_w,i32_w]
     rfl
    exact norm_ (by simp only [putAll,Act.put,z1_,z2_,z3_]) (hCont (gb384,gb385) _ ⟨hHeld,(by (with_reducible repeat (first|apply kN_|apply kD_|apply kA_));exact BK382.out),(by (with_reducible repeat (first|apply kN_|apply kD_|apply kA_));exact BK383.out),(by (with_reducible repeat (first|apply kN_|apply kD_|apply kA_));exact BK384.out),(by (with_reducible repeat (first|apply kN_|apply kD_|apply kA_));exact BK385.out),GW384.out,GE384.out,NB382_384.out,NB384_382.out,NB383_384.out,NB384_383.out,NB385_384.out,NB384_385.out,GW385.out,GE385.out,NB382_385.out,NB385_382.out,NB383_385.out,NB385_383.out,(by repeat (first|(with_reducible first|exact HB.out|apply bA_|apply bN_|apply bD_|refine bS_ ?_ GE382.out|refine bS_ ?_ GE383.out|refine bS_ ?_ GE384.out|refine bS_ ?_ GE385.out)|exact HB.out))⟩)
   ·
    skip
    refine box_step ?hg (N:=6) ?hd (cs:=#[.int .i8 0,.int .i8 0,.int .i8 0,.int .i8 0]) (t:=38) ?hr ?_;(case hd=>rfl);(case hg=>rfl);(case hr=>first|(go_simp;done)|(go_simp;rfl));intro gb385 hg w77 hbox hb;have n0_:=am_ (blk_below (g:=gb382) (o:=.cells #[.int .i8 a0_0,.int .i8 a0_1,.int .i8 a0_2,.int .i8 a0_3] 38 (0,0)) (by (with_reducible repeat (first|apply kN_|apply kD_|apply kA_));exact BK382.out) hb);have n1_:=am_ (blk_below (g:=gb383) (o:=.cells #[.int .i8 a1_0,.int .i8 a1_1,.int .i8 a1_2,.int .i8 a1_3] 38 (0,0)) (by (with_reducible repeat (first|apply kN_|apply kD_|apply kA_));exact BK383.out) hb);have n2_:=am_ (bT_ (by repeat (first|(with_reducible first|exact HB.out|apply bA_|apply bN_|apply bD_|refine bS_ ?_ GE382.out|refine bS_ ?_ GE383.out)|exact HB.out)) hb);have n3_:=am_ (hbox);have n4_:=am_ ((by rw [hg];exact (below_size (by repeat (first|(with_reducible first|exact HB.out|apply bA_|apply bN_|apply bD_|refine bS_ ?_ GE382.out|refine bS_ ?_ GE383.out)|exact HB.out))) : w.heap.size≤gb385));have n5_:=am_ ((by rw [hg];exact (below_size (by repeat (first|(with_reducible first|exact HB.out|apply bA_|apply bN_|apply bD_|refine bS_ ?_ GE382.out|refine bS_ ?_ GE383.out)|exact HB.out))) : w.heap.size≤gb385));have n6_:=am_ ((by rw [hg];exact Nat.ne_of_lt (blk_lt (g:=gb382) (o:=.cells #[.int .i8 a0_0,.int .i8 a0_1,.int .i8 a0_2,.int .i8 a0_3] 38 (0,0)) (by (with_reducible repeat (first|apply kN_|apply kD_|apply kA_));exact BK382.out)) : gb382 ≠ gb385));have n7_:=am_ ((by rw [hg];exact Nat.ne_of_gt (blk_lt (g:=gb382) (o:=.cells #[.int .i8 a0_0,.int .i8 a0_1,.int .i8 a0_2,.int .i8 a0_3] 38 (0,0)) (by (with_reducible repeat (first|apply kN_|apply kD_|apply kA_));exact BK382.out)) : gb385 ≠ gb382));have n8_:=am_ ((by rw [hg];exact Nat.ne_of_lt (blk_lt (g:=gb383) (o:=.cells #[.int .i8 a1_0,.int .i8 a1_1,.int .i8 a1_2,.int .i8 a1_3] 38 (0,0)) (by (with_reducible repeat (first|apply kN_|apply kD_|apply kA_));exact BK383.out)) : gb383 ≠ gb385));have n9_:=am_ ((by rw [hg];exact Nat.ne_of_gt (blk_lt (g:=gb383) (o:=.cells #[.int .i8 a1_0,.int .i8 a1_1,.int .i8 a1_2,.int .i8 a1_3] 38 (0,0)) (by (with_reducible repeat (first|apply kN_|apply kD_|apply kA_));exact BK383.out)) : gb385 ≠ gb383));clear BK382;clear BK383;clear HB;have BK382:=n0_;have BK383:=n1_;have HB:=n2_;have BK385:=n3_;have GW385:=n4_;have GE385:=n5_;have NB382_385:=n6_;have NB385_382:=n7_;have NB383_385:=n8_;have NB385_383:=n9_;clear n0_ n1_ n2_ n3_ n4_ n5_ n6_ n7_ n8_ n9_;clear hb hbox hg;refine hK.out _ _ ⟨(kC_ BK382.out 0).trans rfl,(kC_ BK382.out 1).trans rfl,(kC_ BK382.out 2).trans rfl,(kC_ BK382.out 3).trans rfl⟩ (fun hHeld=>?_);clear hK K;refine norm_ (a':=?_) ?_ ?_;rotate_left
    ·
     show Act.put _ (some 6) _ = _
     simp only [Act.put,z1_,z2_,z3_,i64_w,i32_w]
     rfl
    refine one_ (i:=2) (N:=some 5) (mB_ 6 15) rfl rfl (by kernel_rfl) (by decide) (fun K hK=>?_);refine box_step ?hg (N:=5) ?hd (cs:=#[.int .i8 0,.int .i8 0,.int .i8 0,.int .i8 0]) (t:=38) ?hr ?_;(case hd=>rfl);(case hg=>rfl);(case hr=>first|(go_simp;done)|(go_simp;rfl));intro gb384 hg w78 hbox hb;have n0_:=am_ (blk_below (g:=gb382) (o:=.cells #[.int .i8 a0_0,.int .i8 a0_1,.int .i8 a0_2,.int .i8 a0_3] 38 (0,0)) (by (with_reducible repeat (first|apply kN_|apply kD_|apply kA_));exact BK382.out) hb);have n1_:=am_ (blk_below (g:=gb383) (o:=.cells #[.int .i8 a1_0,.int .i8 a1_1,.int .i8 a1_2,.int .i8 a1_3] 38 (0,0)) (by (with_reducible repeat (first|apply kN_|apply kD_|apply kA_));exact BK383.out) hb);have n2_:=am_ (blk_below (g:=gb385) (o:=.cells #[.int .i8 0,.int .i8 0,.int .i8 0,.int .i8 0] 38 (0,0)) (by (with_reducible repeat (first|apply kN_|apply kD_|apply kA_));exact BK385.out) hb);have n3_:=am_ (bT_ (by repeat (first|(with_reducible first|exact HB.out|apply bA_|apply bN_|apply bD_|refine bS_ ?_ GE382.out|refine bS_ ?_ GE383.out|refine bS_ ?_ GE385.out)|exact HB.out)) hb);have n4_:=am_ (hbox);have n5_:=am_ ((by rw [hg];exact (below_size (by repeat (first|(with_reducible first|exact HB.out|apply bA_|apply bN_|apply bD_|refine bS_ ?_ GE382.out|refine bS_ ?_ GE383.out|refine bS_ ?_ GE385.out)|exact HB.out))) : w.heap.size≤gb384));have n6_:=am_ ((by rw [hg];exact (below_size (by repeat (first|(with_reducible first|exact HB.out|apply bA_|apply bN_|apply bD_|refine bS_ ?_ GE382.out|refine bS_ ?_ GE383.out|refine bS_ ?_ GE385.out)|exact HB.out))) : w.heap.size≤gb384));have n7_:=am_ ((by rw [hg];exact Nat.ne_of_lt (blk_lt (g:=gb382) (o:=.cells #[.int .i8 a0_0,.int .i8 a0_1,.int .i8 a0_2,.int .i8 a0_3] 38 (0,0)) (by (with_reducible repeat (first|apply kN_|apply kD_|apply kA_));exact BK382.out)) : gb382 ≠ gb384));have n8_:=am_ ((by rw [hg];exact Nat.ne_of_gt (blk_lt (g:=gb382) (o:=.cells #[.int .i8 a0_0,.int .i8 a0_1,.int .i8 a0_2,.int .i8 a0_3] 38 (0,0)) (by (with_reducible repeat (first|apply kN_|apply kD_|apply kA_));exact BK382.out)) : gb384 ≠ gb382));have n9_:=am_ ((by rw [hg];exact Nat.ne_of_lt (blk_lt (g:=gb383) (o:=.cells #[.int .i8 a1_0,.int .i8 a1_1,.int .i8 a1_2,.int .i8 a1_3] 38 (0,0)) (by (with_reducible repeat (first|apply kN_|apply kD_|apply kA_));exact BK383.out)) : gb383 ≠ gb384));have n10_:=am_ ((by rw [hg];exact Nat.ne_of_gt (blk_lt (g:=gb383) (o:=.cells #[.int .i8 a1_0,.int .i8 a1_1,.int .i8 a1_2,.int .i8 a1_3] 38 (0,0)) (by (with_reducible repeat (first|apply kN_|apply kD_|apply kA_));exact BK383.out)) : gb384 ≠ gb383));have n11_:=am_ ((by rw [hg];exact Nat.ne_of_lt (blk_lt (g:=gb385) (o:=.cells #[.int .i8 0,.int .i8 0,.int .i8 0,.int .i8 0] 38 (0,0)) (by (with_reducible repeat (first|apply kN_|apply kD_|apply kA_));exact BK385.out)) : gb385 ≠ gb384));have n12_:=am_ ((by rw [hg];exact Nat.ne_of_gt (blk_lt (g:=gb385) (o:=.cells #[.int .i8 0,.int .i8 0,.int .i8 0,.int .i8 0] 38 (0,0)) (by (with_reducible repeat (first|apply kN_|apply kD_|apply kA_));exact BK385.out)) : gb384 ≠ gb385));clear BK382;clear BK383;clear BK385;clear HB;have BK382:=n0_;have BK383:=n1_;have BK385:=n2_;have HB:=n3_;have BK384:=n4_;have GW384:=n5_;have GE384:=n6_;have NB382_384:=n7_;have NB384_382:=n8_;have NB383_384:=n9_;have NB384_383:=n10_;have NB385_384:=n11_;have NB384_385:=n12_;clear n0_ n1_ n2_ n3_ n4_ n5_ n6_ n7_ n8_ n9_ n10_ n11_ n12_;clear hb hbox hg;refine hK.out _ _ ⟨(kC_ BK382.out 0).trans rfl,(kC_ BK382.out 1).trans rfl,(kC_ BK382.out 2).trans rfl,(kC_ BK382.out 3).trans rfl⟩ (fun hHeld=>?_);clear hK K;refine norm_ (a':=?_) ?_ ?_;rotate_left
    ·
     show Act.put _ (some 5) _ = _
     simp only [Act.put,z1_,z2_,z3_,i64_w,i32_w]
     rfl
    exact norm_ (by simp only [putAll,Act.put,z1_,z2_,z3_]) (hCont (gb384,gb385) _ ⟨hHeld,(by (with_reducible repeat (first|apply kN_|apply kD_|apply kA_));exact BK382.out),(by (with_reducible repeat (first|apply kN_|apply kD_|apply kA_));exact BK383.out),(by (with_reducible repeat (first|apply kN_|apply kD_|apply kA_));exact BK384.out),(by (with_reducible repeat (first|apply kN_|apply kD_|apply kA_));exact BK385.out),GW384.out,GE384.out,NB382_384.out,NB384_382.out,NB383_384.out,NB384_383.out,NB385_384.out,NB384_385.out,GW385.out,GE385.out,NB382_385.out,NB385_382.out,NB383_385.out,NB385_383.out,(by repeat (first|(with_reducible first|exact HB.out|apply bA_|apply bN_|apply bD_|refine bS_ ?_ GE382.out|refine bS_ ?_ GE383.out|refine bS_ ?_ GE385.out|refine bS_ ?_ GE384.out)|exact HB.out))⟩)
  rintro ⟨gb384,gb385⟩ w79 ⟨hS_,h0_,h1_,h2_,h3_,h4_,h5_,h6_,h7_,h8_,h9_,h10_,h11_,h12_,h13_,h14_,h15_,h16_,h17_,h18_⟩;have n0_ : Aside0 (w79.heap[gb382]? = some (.cells #[.int .i8 a0_0,.int .i8 a0_1,.int .i8 a0_2,.int .i8 a0_3] 38 (0,0))):=⟨h0_⟩
  have n1_ : Aside0 (w79.heap[gb383]? = some (.cells #[.int .i8 a1_0,.int .i8 a1_1,.int .i8 a1_2,.int .i8 a1_3] 38 (0,0))):=⟨h1_⟩
  have n2_ : Aside0 (w79.heap[gb384]? = some (.cells #[.int .i8 0,.int .i8 0,.int .i8 0,.int .i8 0] 38 (0,0))):=⟨h2_⟩
  have n3_ : Aside0 (w79.heap[gb385]? = some (.cells #[.int .i8 0,.int .i8 0,.int .i8 0,.int .i8 0] 38 (0,0))):=⟨h3_⟩
  have n4_ : Aside0 (w.heap.size≤gb384):=⟨h4_⟩
  have n5_ : Aside0 (w.heap.size≤gb384):=⟨h5_⟩
  have n6_ : Aside0 (gb382 ≠ gb384):=⟨h6_⟩
  have n7_ : Aside0 (gb384 ≠ gb382):=⟨h7_⟩
  have n8_ : Aside0 (gb383 ≠ gb384):=⟨h8_⟩
  have n9_ : Aside0 (gb384 ≠ gb383):=⟨h9_⟩
  have n10_ : Aside0 (gb385 ≠ gb384):=⟨h10_⟩
  have n11_ : Aside0 (gb384 ≠ gb385):=⟨h11_⟩
  have n12_ : Aside0 (w.heap.size≤gb385):=⟨h12_⟩
  have n13_ : Aside0 (w.heap.size≤gb385):=⟨h13_⟩
  have n14_ : Aside0 (gb382 ≠ gb385):=⟨h14_⟩
  have n15_ : Aside0 (gb385 ≠ gb382):=⟨h15_⟩
  have n16_ : Aside0 (gb383 ≠ gb385):=⟨h16_⟩
  have n17_ : Aside0 (gb385 ≠ gb383):=⟨h17_⟩
  have n18_ : Aside0 (Below w.heap.size w w79):=⟨h18_⟩
  clear BK382;clear BK383;clear HB;clear h0_ h1_ h2_ h3_ h4_ h5_ h6_ h7_ h8_ h9_ h10_ h11_ h12_ h13_ h14_ h15_ h16_ h17_ h18_;have BK382:=n0_;have BK383:=n1_;have BK384:=n2_;have BK385:=n3_;have GW384:=n4_;have GE384:=n5_;have NB382_384:=n6_;have NB384_382:=n7_;have NB383_384:=n8_;have NB384_383:=n9_;have NB385_384:=n10_;have NB384_385:=n11_;have GW385:=n12_;have GE385:=n13_;have NB382_385:=n14_;have NB385_382:=n15_;have NB383_385:=n16_;have NB385_383:=n17_;have HB:=n18_;clear n0_ n1_ n2_ n3_ n4_ n5_ n6_ n7_ n8_ n9_ n10_ n11_ n12_ n13_ n14_ n15_ n16_ n17_ n18_;have hHeld : w79.cell? ⟨gb382,0,none⟩ = some (.int .i8 a0_0) ∧ w79.cell? ⟨gb382,1,none⟩ = some (.int .i8 a0_1) ∧ w79.cell? ⟨gb382,2,none⟩ = some (.int .i8 a0_2) ∧ w79.cell? ⟨gb382,3,none⟩ = some (.int .i8 a0_3):=hS_;refine norm_ (a':=?_) ?_ ?_;rotate_left
  ·
   simp only [putAll,Act.put,z1_,z2_,z3_]
   rfl
  refine one_ (i:=4) (N:=none) (mB_ 6 31) rfl rfl (by kernel_rfl) (by decide) (fun K hK=>?_);have hs80 : w79.cell? ⟨gb384,0,none⟩ = some (.int .i8 0):=(kC_ BK384.out 0).trans rfl;have hfs80:=kF_ BK384.out 0;have hns80_0:=NB382_384.out;have hns80_1:=NB383_384.out;have hns80_3:=NB385_384.out;have hms80_0:=NB384_382.out;have hms80_1:=NB384_383.out;have hms80_3:=NB384_385.out;have hs81 : w79.cell? ⟨gb384,1,none⟩ = some (.int .i8 0):=(kC_ BK384.out 1).trans rfl;have hfs81:=kF_ BK384.out 1;have hns81_0:=NB382_384.out;have hns81_1:=NB383_384.out;have hns81_3:=NB385_384.out;have hms81_0:=NB384_382.out;have hms81_1:=NB384_383.out;have hms81_3:=NB384_385.out;have hs82 : w79.cell? ⟨gb384,2,none⟩ = some (.int .i8 0):=(kC_ BK384.out 2).trans rfl;have hfs82:=kF_ BK384.out 2;have hns82_0:=NB382_384.out;have hns82_1:=NB383_384.out;have hns82_3:=NB385_384.out;have hms82_0:=NB384_382.out;have hms82_1:=NB384_383.out;have hms82_3:=NB384_385.out;have hs83 : w79.cell? ⟨gb384,3,none⟩ = some (.int .i8 0):=(kC_ BK384.out 3).trans rfl;have hfs83:=kF_ BK384.out 3;have hns83_0:=NB382_384.out;have hns83_1:=NB383_384.out;have hns83_3:=NB385_384.out;have hms83_0:=NB384_382.out;have hms83_1:=NB384_383.out;have hms83_3:=NB384_385.out;refine skip_ (w1:=?_) (by rfl) rfl ?_ ?_;rotate_left
  ·
   go_simp
   rfl
  refine hK.out _ _ ⟨((cell_far (p:=⟨gb384,_,none⟩) NB382_384.out _).trans (((cell_far (p:=⟨gb384,_,none⟩) NB382_384.out _).trans (((cell_far (p:=⟨gb384,_,none⟩) NB382_384.out _).trans (((cell_far (p:=⟨gb384,_,none⟩) NB382_384.out _).trans (hHeld.1)))))))),((cell_far (p:=⟨gb384,_,none⟩) NB382_384.out _).trans (((cell_far (p:=⟨gb384,_,none⟩) NB382_384.out _).trans (((cell_far (p:=⟨gb384,_,none⟩) NB382_384.out _).trans (((cell_far (p:=⟨gb384,_,none⟩) NB382_384.out _).trans (hHeld.2.1)))))))),((cell_far (p:=⟨gb384,_,none⟩) NB382_384.out _).trans (((cell_far (p:=⟨gb384,_,none⟩) NB382_384.out _).trans (((cell_far (p:=⟨gb384,_,none⟩) NB382_384.out _).trans (((cell_far (p:=⟨gb384,_,none⟩) NB382_384.out _).trans (hHeld.2.2.1)))))))),((cell_far (p:=⟨gb384,_,none⟩) NB382_384.out _).trans (((cell_far (p:=⟨gb384,_,none⟩) NB382_384.out _).trans (((cell_far (p:=⟨gb384,_,none⟩) NB382_384.out _).trans (((cell_far (p:=⟨gb384,_,none⟩) NB382_384.out _).trans (hHeld.2.2.2))))))))⟩ (fun hHeld=>?_);clear hK K;refine one_ (i:=5) (N:=none) (mB_ 6 63) rfl rfl (by kernel_rfl) (by decide) (fun K hK=>?_);have hs84 : w79.cell? ⟨gb385,0,none⟩ = some (.int .i8 0):=(kC_ BK385.out 0).trans rfl;have hfs84:=kF_ BK385.out 0;have hns84_0:=NB382_385.out;have hns84_1:=NB383_385.out;have hns84_2:=NB384_385.out;have hms84_0:=NB385_382.out;have hms84_1:=NB385_383.out;have hms84_2:=NB385_384.out;have hs85 : w79.cell? ⟨gb385,1,none⟩ = some (.int .i8 0):=(kC_ BK385.out 1).trans rfl;have hfs85:=kF_ BK385.out 1;have hns85_0:=NB382_385.out;have hns85_1:=NB383_385.out;have hns85_2:=NB384_385.out;have hms85_0:=NB385_382.out;have hms85_1:=NB385_383.out;have hms85_2:=NB385_384.out;have hs86 : w79.cell? ⟨gb385,2,none⟩ = some (.int .i8 0):=(kC_ BK385.out 2).trans rfl;have hfs86:=kF_ BK385.out 2;have hns86_0:=NB382_385.out;have hns86_1:=NB383_385.out;have hns86_2:=NB384_385.out;have hms86_0:=NB385_382.out;have hms86_1:=NB385_383.out;have hms86_2:=NB385_384.out;have hs87 : w79.cell? ⟨gb385,3,none⟩ = some (.int .i8 0):=(kC_ BK385.out 3).trans rfl;have hfs87:=kF_ BK385.out 3;have hns87_0:=NB382_385.out;have hns87_1:=NB383_385.out;have hns87_2:=NB384_385.out;have hms87_0:=NB385_382.out;have hms87_1:=NB385_383.out;have hms87_2:=NB385_384.out;refine skip_ (w1:=?_) (by rfl) rfl ?_ ?_;rotate_left
  ·
   go_simp
   rfl
  refine hK.out _ _ ⟨((cell_far (p:=⟨gb385,_,none⟩) NB382_385.out _).trans (((cell_far (p:=⟨gb385,_,none⟩) NB382_385.out _).trans (((cell_far (p:=⟨gb385,_,none⟩) NB382_385.out _).trans (((cell_far (p:=⟨gb385,_,none⟩) NB382_385.out _).trans (hHeld.1)))))))),((cell_far (p:=⟨gb385,_,none⟩) NB382_385.out _).trans (((cell_far (p:=⟨gb385,_,none⟩) NB382_385.out _).trans (((cell_far (p:=⟨gb385,_,none⟩) NB382_385.out _).trans (((cell_far (p:=⟨gb385,_,none⟩) NB382_385.out _).trans (hHeld.2.1)))))))),((cell_far (p:=⟨gb385,_,none⟩) NB382_385.out _).trans (((cell_far (p:=⟨gb385,_,none⟩) NB382_385.out _).trans (((cell_far (p:=⟨gb385,_,none⟩) NB382_385.out _).trans (((cell_far (p:=⟨gb385,_,none⟩) NB382_385.out _).trans (hHeld.2.2.1)))))))),((cell_far (p:=⟨gb385,_,none⟩) NB382_385.out _).trans (((cell_far (p:=⟨gb385,_,none⟩) NB382_385.out _).trans (((cell_far (p:=⟨gb385,_,none⟩) NB382_385.out _).trans (((cell_far (p:=⟨gb385,_,none⟩) NB382_385.out _).trans (hHeld.2.2.2))))))))⟩ (fun hHeld=>?_);clear hK K;refine done_ (by kernel_rfl) ?_
  try go_wp2
  have n0_ : Aside0 (((((((((w79.setCell ⟨gb384,0,none⟩ (.int .i8 a0_0)).setCell ⟨gb384,1,none⟩ (.int .i8 a0_1)).setCell ⟨gb384,2,none⟩ (.int .i8 a0_2)).setCell ⟨gb384,3,none⟩ (.int .i8 a0_3)).setCell ⟨gb385,0,none⟩ (.int .i8 a0_0)).setCell ⟨gb385,1,none⟩ (.int .i8 a0_1)).setCell ⟨gb385,2,none⟩ (.int .i8 a0_2)).setCell ⟨gb385,3,none⟩ (.int .i8 a0_3)).heap[gb382]? = some (.cells #[.int .i8 a0_0,.int .i8 a0_1,.int .i8 a0_2,.int .i8 a0_3] 38 (0,0))):=⟨by (with_reducible repeat (first|apply kN_|apply kD_|apply kA_));refine blk_far ?_ NB382_385.out _;(with_reducible repeat (first|apply kN_|apply kD_|apply kA_));refine blk_far ?_ NB382_385.out _;(with_reducible repeat (first|apply kN_|apply kD_|apply kA_));refine blk_far ?_ NB382_385.out _;(with_reducible repeat (first|apply kN_|apply kD_|apply kA_));refine blk_far ?_ NB382_385.out _;(with_reducible repeat (first|apply kN_|apply kD_|apply kA_));refine blk_far ?_ NB382_384.out _;(with_reducible repeat (first|apply kN_|apply kD_|apply kA_));refine blk_far ?_ NB382_384.out _;(with_reducible repeat (first|apply kN_|apply kD_|apply kA_));refine blk_far ?_ NB382_384.out _;(with_reducible repeat (first|apply kN_|apply kD_|apply kA_));refine blk_far ?_ NB382_384.out _;(with_reducible repeat (first|apply kN_|apply kD_|apply kA_));exact BK382.out⟩
  have n1_ : Aside0 (((((((((w79.setCell ⟨gb384,0,none⟩ (.int .i8 a0_0)).setCell ⟨gb384,1,none⟩ (.int .i8 a0_1)).setCell ⟨gb384,2,none⟩ (.int .i8 a0_2)).setCell ⟨gb384,3,none⟩ (.int .i8 a0_3)).setCell ⟨gb385,0,none⟩ (.int .i8 a0_0)).setCell ⟨gb385,1,none⟩ (.int .i8 a0_1)).setCell ⟨gb385,2,none⟩ (.int .i8 a0_2)).setCell ⟨gb385,3,none⟩ (.int .i8 a0_3)).heap[gb383]? = some (.cells #[.int .i8 a1_0,.int .i8 a1_1,.int .i8 a1_2,.int .i8 a1_3] 38 (0,0))):=⟨by (with_reducible repeat (first|apply kN_|apply kD_|apply kA_));refine blk_far ?_ NB383_385.out _;(with_reducible repeat (first|apply kN_|apply kD_|apply kA_));refine blk_far ?_ NB383_385.out _;(with_reducible repeat (first|apply kN_|apply kD_|apply kA_));refine blk_far ?_ NB383_385.out _;(with_reducible repeat (first|apply kN_|apply kD_|apply kA_));refine blk_far ?_ NB383_385.out _;(with_reducible repeat (first|apply kN_|apply kD_|apply kA_));refine blk_far ?_ NB383_384.out _;(with_reducible repeat (first|apply kN_|apply kD_|apply kA_));refine blk_far ?_ NB383_384.out _;(with_reducible repeat (first|apply kN_|apply kD_|apply kA_));refine blk_far ?_ NB383_384.out _;(with_reducible repeat (first|apply kN_|apply kD_|apply kA_));refine blk_far ?_ NB383_384.out _;(with_reducible repeat (first|apply kN_|apply kD_|apply kA_));exact BK383.out⟩
  have n2_ : Aside0 (((((((((w79.setCell ⟨gb384,0,none⟩ (.int .i8 a0_0)).setCell ⟨gb384,1,none⟩ (.int .i8 a0_1)).setCell ⟨gb384,2,none⟩ (.int .i8 a0_2)).setCell ⟨gb384,3,none⟩ (.int .i8 a0_3)).setCell ⟨gb385,0,none⟩ (.int .i8 a0_0)).setCell ⟨gb385,1,none⟩ (.int .i8 a0_1)).setCell ⟨gb385,2,none⟩ (.int .i8 a0_2)).setCell ⟨gb385,3,none⟩ (.int .i8 a0_3)).heap[gb384]? = some (.cells #[.int .i8 a0_0,.int .i8 a0_1,.int .i8 a0_2,.int .i8 a0_3] 38 (0,0))):=⟨by (with_reducible repeat (first|apply kN_|apply kD_|apply kA_));refine blk_far ?_ NB384_385.out _;(with_reducible repeat (first|apply kN_|apply kD_|apply kA_));refine blk_far ?_ NB384_385.out _;(with_reducible repeat (first|apply kN_|apply kD_|apply kA_));refine blk_far ?_ NB384_385.out _;(with_reducible repeat (first|apply kN_|apply kD_|apply kA_));refine blk_far ?_ NB384_385.out _;(with_reducible repeat (first|apply kN_|apply kD_|apply kA_));refine blk_put (cs:=#[.int .i8 a0_0,.int .i8 a0_1,.int .i8 a0_2,.int .i8 0]) ?_ 3 _ rfl;(with_reducible repeat (first|apply kN_|apply kD_|apply kA_));refine blk_put (cs:=#[.int .i8 a0_0,.int .i8 a0_1,.int .i8 0,.int .i8 0]) ?_ 2 _ rfl;(with_reducible repeat (first|apply kN_|apply kD_|apply kA_));refine blk_put (cs:=#[.int .i8 a0_0,.int .i8 0,.int .i8 0,.int .i8 0]) ?_ 1 _ rfl;(with_reducible repeat (first|apply kN_|apply kD_|apply kA_));refine blk_put (cs:=#[.int .i8 0,.int .i8 0,.int .i8 0,.int .i8 0]) ?_ 0 _ rfl;(with_reducible repeat (first|apply kN_|apply kD_|apply kA_));exact BK384.out⟩
  have n3_ : Aside0 (((((((((w79.setCell ⟨gb384,0,none⟩ (.int .i8 a0_0)).setCell ⟨gb384,1,none⟩ (.int .i8 a0_1)).setCell ⟨gb384,2,none⟩ (.int .i8 a0_2)).setCell ⟨gb384,3,none⟩ (.int .i8 a0_3)).setCell ⟨gb385,0,none⟩ (.int .i8 a0_0)).setCell ⟨gb385,1,none⟩ (.int .i8 a0_1)).setCell ⟨gb385,2,none⟩ (.int .i8 a0_2)).setCell ⟨gb385,3,none⟩ (.int .i8 a0_3)).heap[gb385]? = some (.cells #[.int .i8 a0_0,.int .i8 a0_1,.int .i8 a0_2,.int .i8 a0_3] 38 (0,0))):=⟨by (with_reducible repeat (first|apply kN_|apply kD_|apply kA_));refine blk_put (cs:=#[.int .i8 a0_0,.int .i8 a0_1,.int .i8 a0_2,.int .i8 0]) ?_ 3 _ rfl;(with_reducible repeat (first|apply kN_|apply kD_|apply kA_));refine blk_put (cs:=#[.int .i8 a0_0,.int .i8 a0_1,.int .i8 0,.int .i8 0]) ?_ 2 _ rfl;(with_reducible repeat (first|apply kN_|apply kD_|apply kA_));refine blk_put (cs:=#[.int .i8 a0_0,.int .i8 0,.int .i8 0,.int .i8 0]) ?_ 1 _ rfl;(with_reducible repeat (first|apply kN_|apply kD_|apply kA_));refine blk_put (cs:=#[.int .i8 0,.int .i8 0,.int .i8 0,.int .i8 0]) ?_ 0 _ rfl;(with_reducible repeat (first|apply kN_|apply kD_|apply kA_));refine blk_far ?_ NB385_384.out _;(with_reducible repeat (first|apply kN_|apply kD_|apply kA_));refine blk_far ?_ NB385_384.out _;(with_reducible repeat (first|apply kN_|apply kD_|apply kA_));refine blk_far ?_ NB385_384.out _;(with_reducible repeat (first|apply kN_|apply kD_|apply kA_));refine blk_far ?_ NB385_384.out _;(with_reducible repeat (first|apply kN_|apply kD_|apply kA_));exact BK385.out⟩
  have n4_ : Aside0 (Below w.heap.size w ((((((((w79.setCell ⟨gb384,0,none⟩ (.int .i8 a0_0)).setCell ⟨gb384,1,none⟩ (.int .i8 a0_1)).setCell ⟨gb384,2,none⟩ (.int .i8 a0_2)).setCell ⟨gb384,3,none⟩ (.int .i8 a0_3)).setCell ⟨gb385,0,none⟩ (.int .i8 a0_0)).setCell ⟨gb385,1,none⟩ (.int .i8 a0_1)).setCell ⟨gb385,2,none⟩ (.int .i8 a0_2)).setCell ⟨gb385,3,none⟩ (.int .i8 a0_3))):=⟨by repeat (first|(with_reducible first|exact HB.out|apply bA_|apply bN_|apply bD_|refine bS_ ?_ GE382.out|refine bS_ ?_ GE383.out|refine bS_ ?_ GE384.out|refine bS_ ?_ GE385.out)|exact HB.out)⟩
  (try clear BK382);(try clear BK383);(try clear BK384);(try clear BK385);(try clear HB);generalize ((((((((w79.setCell ⟨gb384,0,none⟩ (.int .i8 a0_0)).setCell ⟨gb384,1,none⟩ (.int .i8 a0_1)).setCell ⟨gb384,2,none⟩ (.int .i8 a0_2)).setCell ⟨gb384,3,none⟩ (.int .i8 a0_3)).setCell ⟨gb385,0,none⟩ (.int .i8 a0_0)).setCell ⟨gb385,1,none⟩ (.int .i8 a0_1)).setCell ⟨gb385,2,none⟩ (.int .i8 a0_2)).setCell ⟨gb385,3,none⟩ (.int .i8 a0_3)) = w88 at n0_ n1_ n2_ n3_ n4_ ⊢;have BK382:=n0_;have BK383:=n1_;have BK384:=n2_;have BK385:=n3_;have HB:=n4_;clear n0_ n1_ n2_ n3_ n4_;have n0_:=am_ (kD_ BK382.out);have n1_:=am_ (kD_ BK383.out);have n2_:=am_ (kD_ BK384.out);have n3_:=am_ (kD_ BK385.out);have n4_:=am_ (bD_ HB.out);clear BK382;clear BK383;clear BK384;clear BK385;clear HB;have BK382:=n0_;have BK383:=n1_;have BK384:=n2_;have BK385:=n3_;have HB:=n4_;clear n0_ n1_ n2_ n3_ n4_;refine start_ (n:=10) (S:=fun w'=>w'.cell? ⟨gb382,0,none⟩ = some (.int .i8 a0_0) ∧ w'.cell? ⟨gb382,1,none⟩ = some (.int .i8 a0_1) ∧ w'.cell? ⟨gb382,2,none⟩ = some (.int .i8 a0_2) ∧ w'.cell? ⟨gb382,3,none⟩ = some (.int .i8 a0_3)) (ds:=[]) (mB_ 10 0) (by kernel_rfl) rfl rfl ⟨(kC_ BK382.out 0).trans rfl,(kC_ BK382.out 1).trans rfl,(kC_ BK382.out 2).trans rfl,(kC_ BK382.out 3).trans rfl⟩ (fun hHeld=>?_);refine with_tabW impl_areBeside.tab2 impl_areBeside.bits2 (fun HT_ HW_=>?_);generalize w88.drew = w89 at BK382 BK383 BK384 BK385 HB hHeld ⊢;refine pure_ (i:=0) (N:=some 9) (v:=?_) (a':=?_) (mB_ 10 1) rfl rfl (any_of HT_.out (by kernel_rfl)) (fun _ _ _ h=>h) (Or.inl ⟨by rfl,?_⟩) ?_ ?_;rotate_left
  ·
   intro w'
   go_simp
   with_reducible rfl
  rotate_left
  ·
   simp only [Act.put,z1_,z2_,z3_,i64_w,i32_w]
   rfl
  refine pure_ (i:=3) (N:=some 12) (v:=?_) (a':=?_) (mB_ 10 9) rfl rfl (any_of HT_.out (by kernel_rfl)) (fun _ _ _ h=>h) (Or.inl ⟨by rfl,?_⟩) ?_ ?_;rotate_left
  ·
   intro w'
   go_simp
   with_reducible rfl
  rotate_left
  ·
   simp only [Act.put,z1_,z2_,z3_,i64_w,i32_w]
   rfl
  refine take_ (i:=1) (N:=some 10) (v:=?_) (a':=?_) (mB_ 10 11) rfl rfl (take_ofW HT_.out HW_.out (by kernel_rfl)) (fun _ _ _ h=>h) (Or.inl ⟨by rfl,?_⟩) hHeld ?_ ?_;rotate_left
  ·
   rintro w' ⟨s0,s1,s2,s3⟩
   go_simp
   with_reducible rfl
  rotate_left
  ·
   simp only [Act.put,z1_,z2_,z3_,i64_w,i32_w]
   rfl
  refine pure_ (i:=2) (N:=some 11) (v:=?_) (a':=?_) (mB_ 10 15) rfl rfl (any_of HT_.out (by kernel_rfl)) (fun _ _ _ h=>h) (Or.inl ⟨by rfl,?_⟩) ?_ ?_;rotate_left
  ·
   intro w'
   go_simp
   with_reducible rfl
  rotate_left
  ·
   simp only [Act.put,z1_,z2_,z3_,i64_w,i32_w]
   rfl
  refine pure_ (i:=6) (N:=some 15) (v:=?_) (a':=?_) (mB_ 10 79) rfl rfl (any_of HT_.out (by kernel_rfl)) (fun _ _ _ h=>h) (Or.inl ⟨by rfl,?_⟩) ?_ ?_;rotate_left
  ·
   intro w'
   go_simp
   with_reducible rfl
  rotate_left
  ·
   simp only [Act.put,z1_,z2_,z3_,i64_w,i32_w]
   rfl
  refine take_ (i:=4) (N:=some 13) (v:=?_) (a':=?_) (mB_ 10 95) rfl rfl (take_ofW HT_.out HW_.out (by kernel_rfl)) (fun _ _ _ h=>h) (Or.inl ⟨by rfl,?_⟩) hHeld ?_ ?_;rotate_left
  ·
   rintro w' ⟨s0,s1,s2,s3⟩
   go_simp
   with_reducible rfl
  rotate_left
  ·
   simp only [Act.put,z1_,z2_,z3_,i64_w,i32_w]
   rfl
  refine pure_ (i:=5) (N:=some 14) (v:=?_) (a':=?_) (mB_ 10 127) rfl rfl (any_of HT_.out (by kernel_rfl)) (fun _ _ _ h=>h) (Or.inl ⟨by rfl,?_⟩) ?_ ?_;rotate_left
  ·
   intro w'
   go_simp
   with_reducible rfl
  rotate_left
  ·
   simp only [Act.put,z1_,z2_,z3_,i64_w,i32_w]
   rfl
  refine one_ (i:=7) (N:=none) (mB_ 10 255) rfl rfl (one_of HT_.out (by kernel_rfl)) (by decide) (fun K hK=>?_);have hs90 : w89.cell? ⟨gb384,0,none⟩ = some (.int .i8 a0_0):=(kC_ BK384.out 0).trans rfl;have hfs90:=kF_ BK384.out 0;have hns90_0:=NB382_384.out;have hns90_1:=NB383_384.out;have hns90_3:=NB385_384.out;have hms90_0:=NB384_382.out;have hms90_1:=NB384_383.out;have hms90_3:=NB384_385.out;refine skip_ (w1:=?_) (by rfl) rfl ?_ ?_;rotate_left
  ·
   go_simp
   rfl
  refine hK.out _ _ ⟨((cell_far (p:=⟨gb384,_,none⟩) NB382_384.out _).trans (hHeld.1)),((cell_far (p:=⟨gb384,_,none⟩) NB382_384.out _).trans (hHeld.2.1)),((cell_far (p:=⟨gb384,_,none⟩) NB382_384.out _).trans (hHeld.2.2.1)),((cell_far (p:=⟨gb384,_,none⟩) NB382_384.out _).trans (hHeld.2.2.2))⟩ (fun hHeld=>?_);clear hK K;refine pure_ (i:=8) (N:=some 16) (v:=?_) (a':=?_) (mB_ 10 511) rfl rfl (any_of HT_.out (by kernel_rfl)) (fun _ _ _ h=>h) (Or.inl ⟨by rfl,?_⟩) ?_ ?_;rotate_left
  ·
   intro w'
   go_simp
   with_reducible rfl
  rotate_left
  ·
   simp only [Act.put,z1_,z2_,z3_,i64_w,i32_w]
   rfl
  refine one_ (i:=9) (N:=none) (mB_ 10 1023) rfl rfl (one_of HT_.out (by kernel_rfl)) (by decide) (fun K hK=>?_);have hs91 : w89.cell? ⟨gb384,2,none⟩ = some (.int .i8 a0_2):=(kC_ BK384.out 2).trans rfl;have hfs91:=kF_ BK384.out 2;have hns91_0:=NB382_384.out;have hns91_1:=NB383_384.out;have hns91_3:=NB385_384.out;have hms91_0:=NB384_382.out;have hms91_1:=NB384_383.out;have hms91_3:=NB384_385.out;refine skip_ (w1:=?_) (by rfl) rfl ?_ ?_;rotate_left
  ·
   go_simp
   rfl
  refine hK.out _ _ ⟨((cell_far (p:=⟨gb384,_,none⟩) NB382_384.out _).trans (hHeld.1)),((cell_far (p:=⟨gb384,_,none⟩) NB382_384.out _).trans (hHeld.2.1)),((cell_far (p:=⟨gb384,_,none⟩) NB382_384.out _).trans (hHeld.2.2.1)),((cell_far (p:=⟨gb384,_,none⟩) NB382_384.out _).trans (hHeld.2.2.2))⟩ (fun hHeld=>?_);clear hK K;refine done_ (done_of HT_.out (by kernel_rfl)) ?_
  try go_wp2
  have n0_ : Aside0 (((w89.setCell ⟨gb384,0,none⟩ (.int .i8 (IntKind.i8.wrap (a0_0 - 1)))).setCell ⟨gb384,2,none⟩ (.int .i8 (IntKind.i8.wrap (a0_2 + 2)))).heap[gb382]? = some (.cells #[.int .i8 a0_0,.int .i8 a0_1,.int .i8 a0_2,.int .i8 a0_3] 38 (0,0))):=⟨by (with_reducible repeat (first|apply kN_|apply kD_|apply kA_));refine blk_far ?_ NB382_384.out _;(with_reducible repeat (first|apply kN_|apply kD_|apply kA_));refine blk_far ?_ NB382_384.out _;(with_reducible repeat (first|apply kN_|apply kD_|apply kA_));exact BK382.out⟩
  have n1_ : Aside0 (((w89.setCell ⟨gb384,0,none⟩ (.int .i8 (IntKind.i8.wrap (a0_0 - 1)))).setCell ⟨gb384,2,none⟩ (.int .i8 (IntKind.i8.wrap (a0_2 + 2)))).heap[gb383]? = some (.cells #[.int .i8 a1_0,.int .i8 a1_1,.int .i8 a1_2,.int .i8 a1_3] 38 (0,0))):=⟨by (with_reducible repeat (first|apply kN_|apply kD_|apply kA_));refine blk_far ?_ NB383_384.out _;(with_reducible repeat (first|apply kN_|apply kD_|apply kA_));refine blk_far ?_ NB383_384.out _;(with_reducible repeat (first|apply kN_|apply kD_|apply kA_));exact BK383.out⟩
  have n2_ : Aside0 (((w89.setCell ⟨gb384,0,none⟩ (.int .i8 (IntKind.i8.wrap (a0_0 - 1)))).setCell ⟨gb384,2,none⟩ (.int .i8 (IntKind.i8.wrap (a0_2 + 2)))).heap[gb384]? = some (.cells #[.int .i8 (IntKind.i8.wrap (a0_0 - 1)),.int .i8 a0_1,.int .i8 (IntKind.i8.wrap (a0_2 + 2)),.int .i8 a0_3] 38 (0,0))):=⟨by (with_reducible repeat (first|apply kN_|apply kD_|apply kA_));refine blk_put (cs:=#[.int .i8 (IntKind.i8.wrap (a0_0 - 1)),.int .i8 a0_1,.int .i8 a0_2,.int .i8 a0_3]) ?_ 2 _ rfl;(with_reducible repeat (first|apply kN_|apply kD_|apply kA_));refine blk_put (cs:=#[.int .i8 a0_0,.int .i8 a0_1,.int .i8 a0_2,.int .i8 a0_3]) ?_ 0 _ rfl;(with_reducible repeat (first|apply kN_|apply kD_|apply kA_));exact BK384.out⟩
  have n3_ : Aside0 (((w89.setCell ⟨gb384,0,none⟩ (.int .i8 (IntKind.i8.wrap (a0_0 - 1)))).setCell ⟨gb384,2,none⟩ (.int .i8 (IntKind.i8.wrap (a0_2 + 2)))).heap[gb385]? = some (.cells #[.int .i8 a0_0,.int .i8 a0_1,.int .i8 a0_2,.int .i8 a0_3] 38 (0,0))):=⟨by (with_reducible repeat (first|apply kN_|apply kD_|apply kA_));refine blk_far ?_ NB385_384.out _;(with_reducible repeat (first|apply kN_|apply kD_|apply kA_));refine blk_far ?_ NB385_384.out _;(with_reducible repeat (first|apply kN_|apply kD_|apply kA_));exact BK385.out⟩
  have n4_ : Aside0 (Below w.heap.size w ((w89.setCell ⟨gb384,0,none⟩ (.int .i8 (IntKind.i8.wrap (a0_0 - 1)))).setCell ⟨gb384,2,none⟩ (.int .i8 (IntKind.i8.wrap (a0_2 + 2))))):=⟨by repeat (first|(with_reducible first|exact HB.out|apply bA_|apply bN_|apply bD_|refine bS_ ?_ GE382.out|refine bS_ ?_ GE383.out|refine bS_ ?_ GE384.out|refine bS_ ?_ GE385.out)|exact HB.out)⟩
  (try clear BK382);(try clear BK383);(try clear BK384);(try clear BK385);(try clear HB);generalize ((w89.setCell ⟨gb384,0,none⟩ (.int .i8 (IntKind.i8.wrap (a0_0 - 1)))).setCell ⟨gb384,2,none⟩ (.int .i8 (IntKind.i8.wrap (a0_2 + 2)))) = w92 at n0_ n1_ n2_ n3_ n4_ ⊢;have BK382:=n0_;have BK383:=n1_;have BK384:=n2_;have BK385:=n3_;have HB:=n4_;clear n0_ n1_ n2_ n3_ n4_;have n0_:=am_ (kD_ BK382.out);have n1_:=am_ (kD_ BK383.out);have n2_:=am_ (kD_ BK384.out);have n3_:=am_ (kD_ BK385.out);have n4_:=am_ (bD_ HB.out);clear BK382;clear BK383;clear BK384;clear BK385;clear HB;have BK382:=n0_;have BK383:=n1_;have BK384:=n2_;have BK385:=n3_;have HB:=n4_;clear n0_ n1_ n2_ n3_ n4_;refine start_ (n:=10) (S:=fun w'=>w'.cell? ⟨gb382,0,none⟩ = some (.int .i8 a0_0) ∧ w'.cell? ⟨gb382,1,none⟩ = some (.int .i8 a0_1) ∧ w'.cell? ⟨gb382,2,none⟩ = some (.int .i8 a0_2) ∧ w'.cell? ⟨gb382,3,none⟩ = some (.int .i8 a0_3)) (ds:=[]) (mB_ 10 0) (by kernel_rfl) rfl rfl ⟨(kC_ BK382.out 0).trans rfl,(kC_ BK382.out 1).trans rfl,(kC_ BK382.out 2).trans rfl,(kC_ BK382.out 3).trans rfl⟩ (fun hHeld=>?_);refine with_tabW impl_areBeside.tab3 impl_areBeside.bits3 (fun HT_ HW_=>?_);generalize w92.drew = w93 at BK382 BK383 BK384 BK385 HB hHeld ⊢;refine pure_ (i:=0) (N:=some 17) (v:=?_) (a':=?_) (mB_ 10 1) rfl rfl (any_of HT_.out (by kernel_rfl)) (fun _ _ _ h=>h) (Or.inl ⟨by rfl,?_⟩) ?_ ?_;rotate_left
  ·
   intro w'
   go_simp
   with_reducible rfl
  rotate_left
  ·
   simp only [Act.put,z1_,z2_,z3_,i64_w,i32_w]
   rfl
  refine pure_ (i:=3) (N:=some 20) (v:=?_) (a':=?_) (mB_ 10 9) rfl rfl (any_of HT_.out (by kernel_rfl)) (fun _ _ _ h=>h) (Or.inl ⟨by rfl,?_⟩) ?_ ?_;rotate_left
  ·
   intro w'
   go_simp
   with_reducible rfl
  rotate_left
  ·
   simp only [Act.put,z1_,z2_,z3_,i64_w,i32_w]
   rfl
  refine take_ (i:=1) (N:=some 18) (v:=?_) (a':=?_) (mB_ 10 11) rfl rfl (take_ofW HT_.out HW_.out (by kernel_rfl)) (fun _ _ _ h=>h) (Or.inl ⟨by rfl,?_⟩) hHeld ?_ ?_;rotate_left
  ·
   rintro w' ⟨s0,s1,s2,s3⟩
   go_simp
   with_reducible rfl
  rotate_left
  ·
   simp only [Act.put,z1_,z2_,z3_,i64_w,i32_w]
   rfl
  refine pure_ (i:=2) (N:=some 19) (v:=?_) (a':=?_) (mB_ 10 15) rfl rfl (any_of HT_.out (by kernel_rfl)) (fun _ _ _ h=>h) (Or.inl ⟨by rfl,?_⟩) ?_ ?_;rotate_left
  ·
   intro w'
   go_simp
   with_reducible rfl
  rotate_left
  ·
   simp only [Act.put,z1_,z2_,z3_,i64_w,i32_w]
   rfl
  refine pure_ (i:=6) (N:=some 23) (v:=?_) (a':=?_) (mB_ 10 79) rfl rfl (any_of HT_.out (by kernel_rfl)) (fun _ _ _ h=>h) (Or.inl ⟨by rfl,?_⟩) ?_ ?_;rotate_left
  ·
   intro w'
   go_simp
   with_reducible rfl
  rotate_left
  ·
   simp only [Act.put,z1_,z2_,z3_,i64_w,i32_w]
   rfl
  refine take_ (i:=4) (N:=some 21) (v:=?_) (a':=?_) (mB_ 10 95) rfl rfl (take_ofW HT_.out HW_.out (by kernel_rfl)) (fun _ _ _ h=>h) (Or.inl ⟨by rfl,?_⟩) hHeld ?_ ?_;rotate_left
  ·
   rintro w' ⟨s0,s1,s2,s3⟩
   go_simp
   with_reducible rfl
  rotate_left
  ·
   simp only [Act.put,z1_,z2_,z3_,i64_w,i32_w]
   rfl
  refine pure_ (i:=5) (N:=some 22) (v:=?_) (a':=?_) (mB_ 10 127) rfl rfl (any_of HT_.out (by kernel_rfl)) (fun _ _ _ h=>h) (Or.inl ⟨by rfl,?_⟩) ?_ ?_;rotate_left
  ·
   intro w'
   go_simp
   with_reducible rfl
  rotate_left
  ·
   simp only [Act.put,z1_,z2_,z3_,i64_w,i32_w]
   rfl
  refine one_ (i:=7) (N:=none) (mB_ 10 255) rfl rfl (one_of HT_.out (by kernel_rfl)) (by decide) (fun K hK=>?_);have hs94 : w93.cell? ⟨gb385,1,none⟩ = some (.int .i8 a0_1):=(kC_ BK385.out 1).trans rfl;have hfs94:=kF_ BK385.out 1;have hns94_0:=NB382_385.out;have hns94_1:=NB383_385.out;have hns94_2:=NB384_385.out;have hms94_0:=NB385_382.out;have hms94_1:=NB385_383.out;have hms94_2:=NB385_384.out;refine skip_ (w1:=?_) (by rfl) rfl ?_ ?_;rotate_left
  ·
   go_simp
   rfl
  refine hK.out _ _ ⟨((cell_far (p:=⟨gb385,_,none⟩) NB382_385.out _).trans (hHeld.1)),((cell_far (p:=⟨gb385,_,none⟩) NB382_385.out _).trans (hHeld.2.1)),((cell_far (p:=⟨gb385,_,none⟩) NB382_385.out _).trans (hHeld.2.2.1)),((cell_far (p:=⟨gb385,_,none⟩) NB382_385.out _).trans (hHeld.2.2.2))⟩ (fun hHeld=>?_);clear hK K;refine pure_ (i:=8) (N:=some 24) (v:=?_) (a':=?_) (mB_ 10 511) rfl rfl (any_of HT_.out (by kernel_rfl)) (fun _ _ _ h=>h) (Or.inl ⟨by rfl,?_⟩) ?_ ?_;rotate_left
  ·
   intro w'
   go_simp
   with_reducible rfl
  rotate_left
  ·
   simp only [Act.put,z1_,z2_,z3_,i64_w,i32_w]
   rfl
  refine one_ (i:=9) (N:=none) (mB_ 10 1023) rfl rfl (one_of HT_.out (by kernel_rfl)) (by decide) (fun K hK=>?_);have hs95 : w93.cell? ⟨gb385,3,none⟩ = some (.int .i8 a0_3):=(kC_ BK385.out 3).trans rfl;have hfs95:=kF_ BK385.out 3;have hns95_0:=NB382_385.out;have hns95_1:=NB383_385.out;have hns95_2:=NB384_385.out;have hms95_0:=NB385_382.out;have hms95_1:=NB385_383.out;have hms95_2:=NB385_384.out;refine skip_ (w1:=?_) (by rfl) rfl ?_ ?_;rotate_left
  ·
   go_simp
   rfl
  refine hK.out _ _ ⟨((cell_far (p:=⟨gb385,_,none⟩) NB382_385.out _).trans (hHeld.1)),((cell_far (p:=⟨gb385,_,none⟩) NB382_385.out _).trans (hHeld.2.1)),((cell_far (p:=⟨gb385,_,none⟩) NB382_385.out _).trans (hHeld.2.2.1)),((cell_far (p:=⟨gb385,_,none⟩) NB382_385.out _).trans (hHeld.2.2.2))⟩ (fun hHeld=>?_);clear hK K;refine done_ (done_of HT_.out (by kernel_rfl)) ?_;have hnb96:=NB382_383.out;have hnc96:=NB383_382.out;have hnb97:=NB382_384.out;have hnc97:=NB384_382.out;have hnb98:=NB382_385.out;have hnc98:=NB385_382.out;have hcz99_0 : w93.cell? ⟨gb382,0,none⟩ = some (.int .i8 a0_0):=(kC_ BK382.out 0).trans rfl;have hcz99_1 : w93.cell? ⟨gb382,1,none⟩ = some (.int .i8 a0_1):=(kC_ BK382.out 1).trans rfl;have hcz99_2 : w93.cell? ⟨gb382,2,none⟩ = some (.int .i8 a0_2):=(kC_ BK382.out 2).trans rfl;have hcz99_3 : w93.cell? ⟨gb382,3,none⟩ = some (.int .i8 a0_3):=(kC_ BK382.out 3).trans rfl;have hfz99_0:=kF_ BK382.out 0;have hfz99_1:=kF_ BK382.out 1;have hfz99_2:=kF_ BK382.out 2;have hfz99_3:=kF_ BK382.out 3;have hnb100:=NB383_384.out;have hnc100:=NB384_383.out;have hnb101:=NB383_385.out;have hnc101:=NB385_383.out;have hcz102_0 : w93.cell? ⟨gb383,0,none⟩ = some (.int .i8 a1_0):=(kC_ BK383.out 0).trans rfl;have hcz102_1 : w93.cell? ⟨gb383,1,none⟩ = some (.int .i8 a1_1):=(kC_ BK383.out 1).trans rfl;have hcz102_2 : w93.cell? ⟨gb383,2,none⟩ = some (.int .i8 a1_2):=(kC_ BK383.out 2).trans rfl;have hcz102_3 : w93.cell? ⟨gb383,3,none⟩ = some (.int .i8 a1_3):=(kC_ BK383.out 3).trans rfl;have hfz102_0:=kF_ BK383.out 0;have hfz102_1:=kF_ BK383.out 1;have hfz102_2:=kF_ BK383.out 2;have hfz102_3:=kF_ BK383.out 3
  try go_wp2
  go_ret
  exact ⟨by first|rfl|(simp [errW_none,errW_some] <;> rfl)|(simp [*,errW_none,errW_some] <;> rfl),by repeat (first|(with_reducible first|exact HB.out|apply bA_|apply bN_|apply bD_|refine bS_ ?_ GE382.out|refine bS_ ?_ GE383.out|refine bS_ ?_ GE384.out|refine bS_ ?_ GE385.out)|exact HB.out)⟩
end Go.Proofs.Ytanpafadehnhlaa.Q
