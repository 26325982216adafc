-- Trimmed by a program.
import Derived.Test.YtgpfjmkmopjfbaaXQ0
import Derived.Test.YtgpfjmkmopjfbaaXQ8
namespace Go.Proofs.Ytgpfjmkmopjfbaa.Q
open RowKit YtgpfjmkmopjfbaaW.PrintWords YtgpfjmkmopjfbaaW.PrintLast YtgpfjmkmopjfbaaW.PrintMore
attribute [local go_sem] max2_int min2_int max_two min_two max_three min_three max_four min_four
set_option linter.unusedVariables false
set_option linter.unusedSimpArgs false
def impl_compareSlabs.f (k : Nat) (a0_0 : Int) (a0_1 : Int) (a0_2 : Int) (a0_3 : Int) (a1_0 : Int) (a1_1 : Int) (a1_2 : Int) (a1_3 : Int) : Option (Int) := (impl_Slab_first.f a0_0 a0_1 a0_2 a0_3).bind fun bt198 => ((impl_Slab_first.f a1_0 a1_1 a1_2 a1_3).bind fun bt200 => ((impl_compareCells.f k bt198.1 bt198.2 bt200.1 bt200.2).bind fun t202 => (some t202)))
theorem impl_compareSlabs.mono : ∀ a0 a1 a2 a3 a4 a5 a6 a7 k, LeO (impl_compareSlabs.f k a0 a1 a2 a3 a4 a5 a6 a7) (impl_compareSlabs.f (k + 1) a0 a1 a2 a3 a4 a5 a6 a7) := by
 intro a0 a1 a2 a3 a4 a5 a6 a7 k
 unfold impl_compareSlabs.f
 repeat' first
   | (with_reducible exact impl_compareCells.mono _ _ _ _ _)
   | (with_reducible exact LeO.refl _)
   | (with_reducible exact LeO.none _)
   | (with_reducible refine LeO.ite ?_ ?_)
   | (with_reducible refine LeO.bind ?_ (fun _=>?_))
   | exact impl_compareCells.mono _ _ _ _ _
   | exact LeO.none _
   | refine LeO.ite ?_ ?_
   | refine LeO.bind ?_ (fun _=>?_)
set_option maxHeartbeats 8000000 in
set_option maxRecDepth 100000 in
theorem impl_compareSlabs.calls (k : Nat) (a0_0 : Int) (a0_1 : Int) (a0_2 : Int) (a0_3 : Int) (a1_0 : Int) (a1_1 : Int) (a1_2 : Int) (a1_3 : Int) (r : Int) (w : World) (h : impl_compareSlabs.f k a0_0 a0_1 a0_2 a0_3 a1_0 a1_1 a1_2 a1_3 = some r) :
  Calls Try.prog 48 #[.agg #[.int .i8 a0_0,.int .i8 a0_1,.int .i8 a0_2,.int .i8 a0_3],.agg #[.int .i8 a1_0,.int .i8 a1_1,.int .i8 a1_2,.int .i8 a1_3]] w fun e w'=>e = .returned (.int .i64 r) ∧ Below w.heap.size w w':=by
 have hu31:=Try.underlying31;have HB:=am_ (Below.refl w.heap.size w);have H : ((impl_Slab_first.f a0_0 a0_1 a0_2 a0_3).bind fun bt198=>((impl_Slab_first.f a1_0 a1_1 a1_2 a1_3).bind fun bt200=>((impl_compareCells.f k bt198.1 bt198.2 bt200.1 bt200.2).bind fun t202=>(some t202)))) = some r:=h;clear h;replace H:=Option.bind_eq_some_iff.mp H;obtain ⟨⟨t198,t199⟩,A30,H⟩:=H;replace H : ((impl_Slab_first.f a1_0 a1_1 a1_2 a1_3).bind fun bt200=>((impl_compareCells.f k t198 t199 bt200.1 bt200.2).bind fun t202=>(some t202))) = some r:=H;have A3:=am_ A30;clear A30;replace H:=Option.bind_eq_some_iff.mp H;obtain ⟨⟨t200,t201⟩,A40,H⟩:=H;replace H : ((impl_compareCells.f k t198 t199 t200 t201).bind fun t202=>(some t202)) = some r:=H;have A4:=am_ A40;clear A40;replace H:=Option.bind_eq_some_iff.mp H;obtain ⟨t202,A50,H⟩:=H;replace H : (some t202) = some r:=H;have A5:=am_ A50;clear A50;obtain rfl:=Option.some.inj H
 go_enter Try.func48,Try.ntmps48
 try go_wp2_with (first|((with_reducible refine gate_dst (N:=2) rfl ?_);refine box_event ?hg (N:=2) ?hd (cs:=#[.int .i8 a0_0,.int .i8 a0_1,.int .i8 a0_2,.int .i8 a0_3]) (t:=31) ?hr ?_;(case hd=>rfl);(case hg=>rfl);(case hr=>first|(go_simp;done)|(go_simp;rfl));intro gb196 hg w6 hbox hb;have n0_:=am_ (bT_ HB.out hb);have n1_:=am_ (hbox);have n2_:=am_ ((by rw [hg];exact (bZ_ HB.out) : w.heap.size≤gb196));have n3_:=n2_;clear HB;have HB:=n0_;have BK196:=n1_;have GW196:=n2_;have GE196:=n3_;clear n0_ n1_ n2_ n3_;clear hb hbox hg)|((with_reducible refine gate_dst (N:=3) rfl ?_);refine box_event ?hg (N:=3) ?hd (cs:=#[.int .i8 a1_0,.int .i8 a1_1,.int .i8 a1_2,.int .i8 a1_3]) (t:=31) ?hr ?_;(case hd=>rfl);(case hg=>rfl);(case hr=>first|(go_simp;done)|(go_simp;rfl));intro gb197 hg w7 hbox hb;have n0_:=am_ (kB_ BK196.out hb);have n1_:=am_ (bT_ HB.out hb);have n2_:=am_ (hbox);have n3_:=am_ ((by rw [hg];exact (bZ_ HB.out) : w.heap.size≤gb197));have n4_:=n3_;have n5_:=am_ ((by rw [hg];exact nL_ (kL_ BK196.out) : gb196 ≠ gb197));have n6_:=am_ ((by rw [hg];exact nG_ (kL_ BK196.out) : gb197 ≠ gb196));clear BK196;clear HB;have BK196:=n0_;have HB:=n1_;have BK197:=n2_;have GW197:=n3_;have GE197:=n4_;have NB196_197:=n5_;have NB197_196:=n6_;clear n0_ n1_ n2_ n3_ n4_ n5_ n6_;clear hb hbox hg))
 replace BK196:=am_ (kD_ BK196.out);replace BK197:=am_ (kD_ BK197.out);replace HB:=am_ (bD_ HB.out);refine start_ (n:=6) (S:=fun w'=>w'.cell? ⟨gb196,0,none⟩ = some (.int .i8 a0_0) ∧ w'.cell? ⟨gb196,1,none⟩ = some (.int .i8 a0_1) ∧ w'.cell? ⟨gb196,2,none⟩ = some (.int .i8 a0_2) ∧ w'.cell? ⟨gb196,3,none⟩ = some (.int .i8 a0_3) ∧ w'.cell? ⟨gb197,0,none⟩ = some (.int .i8 a1_0) ∧ w'.cell? ⟨gb197,1,none⟩ = some (.int .i8 a1_1) ∧ w'.cell? ⟨gb197,2,none⟩ = some (.int .i8 a1_2) ∧ w'.cell? ⟨gb197,3,none⟩ = some (.int .i8 a1_3)) (ds:=[]) (mB_ 6 0) (by kernel_rfl) rfl rfl ⟨(kC_ BK196.out 0).trans rfl,(kC_ BK196.out 1).trans rfl,(kC_ BK196.out 2).trans rfl,(kC_ BK196.out 3).trans rfl,(kC_ BK197.out 0).trans rfl,(kC_ BK197.out 1).trans rfl,(kC_ BK197.out 2).trans rfl,(kC_ BK197.out 3).trans rfl⟩ (fun hHeld=>?_);generalize w7.drew = w8 at BK196 BK197 HB hHeld ⊢;refine take_ (i:=0) (N:=some 5) (v:=?_) (a':=?_) (mB_ 6 1) rfl rfl (by kernel_rfl) (fun _ _ _ h=>h) (Or.inl ⟨by rfl,?_⟩) hHeld ?_ ?_;rotate_left;(· rintro w' ⟨s0,s1,s2,s3,s4,s5,s6,s7⟩;go_simp;with_reducible rfl);rotate_left;(· simp only [Act.put,z1_,z2_,z3_,i64_w,i32_w];rfl)
 refine take_ (i:=2) (N:=some 7) (v:=?_) (a':=?_) (mB_ 6 5) rfl rfl (by kernel_rfl) (fun _ _ _ h=>h) (Or.inl ⟨by rfl,?_⟩) hHeld ?_ ?_;rotate_left;(· rintro w' ⟨s0,s1,s2,s3,s4,s5,s6,s7⟩;go_simp;with_reducible rfl);rotate_left;(· simp only [Act.put,z1_,z2_,z3_,i64_w,i32_w];rfl)
 refine one_ (i:=1) (N:=some 6) (mB_ 6 7) rfl rfl (by kernel_rfl) (by decide) (fun K hK=>?_);refine goes_ Try.func64 (by kernel_rfl) rfl #[.agg #[.int .i8 a0_0,.int .i8 a0_1,.int .i8 a0_2,.int .i8 a0_3]] (by rfl) rfl rfl (by (try simp only [List.map_toArray,List.map_cons,List.map_nil]);first|done|rfl|(simp only [List.length_drop,List.length_take];rfl)) ?_
 with_reducible refine (impl_Slab_first.calls a0_0 a0_1 a0_2 a0_3 t198 t199 _ A3.out).mono ?_
 rintro e w9 ⟨rfl,hb⟩;refine ⟨_,rfl,?_⟩;replace BK196:=am_ (kB_ BK196.out hb);replace BK197:=am_ (kB_ BK197.out hb);replace HB:=am_ (bT_ HB.out hb);(try clear hb hb2 hk hi);refine hK.out _ _ ⟨(kC_ BK196.out 0).trans rfl,(kC_ BK196.out 1).trans rfl,(kC_ BK196.out 2).trans rfl,(kC_ BK196.out 3).trans rfl,(kC_ BK197.out 0).trans rfl,(kC_ BK197.out 1).trans rfl,(kC_ BK197.out 2).trans rfl,(kC_ BK197.out 3).trans rfl⟩ (fun hHeld=>?_);clear hK K;refine norm_ (a':=?_) ?_ ?_;rotate_left
 · show Act.put _ (some 6) _ = _;simp only [Act.put,z1_,z2_,z3_,i64_w,i32_w];rfl
 refine one_ (i:=3) (N:=some 8) (mB_ 6 15) rfl rfl (by kernel_rfl) (by decide) (fun K hK=>?_);refine goes_ Try.func64 (by kernel_rfl) rfl #[.agg #[.int .i8 a1_0,.int .i8 a1_1,.int .i8 a1_2,.int .i8 a1_3]] (by rfl) rfl rfl (by (try simp only [List.map_toArray,List.map_cons,List.map_nil]);first|done|rfl|(simp only [List.length_drop,List.length_take];rfl)) ?_
 with_reducible refine (impl_Slab_first.calls a1_0 a1_1 a1_2 a1_3 t200 t201 _ A4.out).mono ?_
 rintro e w10 ⟨rfl,hb⟩;refine ⟨_,rfl,?_⟩;replace BK196:=am_ (kB_ BK196.out hb);replace BK197:=am_ (kB_ BK197.out hb);replace HB:=am_ (bT_ HB.out hb);(try clear hb hb2 hk hi);refine hK.out _ _ ⟨(kC_ BK196.out 0).trans rfl,(kC_ BK196.out 1).trans rfl,(kC_ BK196.out 2).trans rfl,(kC_ BK196.out 3).trans rfl,(kC_ BK197.out 0).trans rfl,(kC_ BK197.out 1).trans rfl,(kC_ BK197.out 2).trans rfl,(kC_ BK197.out 3).trans rfl⟩ (fun hHeld=>?_);clear hK K;refine norm_ (a':=?_) ?_ ?_;rotate_left
 · show Act.put _ (some 8) _ = _;simp only [Act.put,z1_,z2_,z3_,i64_w,i32_w];rfl
 refine one_ (i:=4) (N:=some 9) (mB_ 6 31) rfl rfl (by kernel_rfl) (by decide) (fun K hK=>?_);refine goes_ Try.func63 (by kernel_rfl) rfl #[.agg #[.int .i8 t198,.int .i8 t199],.agg #[.int .i8 t200,.int .i8 t201]] (by rfl) rfl rfl (by (try simp only [List.map_toArray,List.map_cons,List.map_nil]);first|done|rfl|(simp only [List.length_drop,List.length_take];rfl)) ?_
 with_reducible refine (impl_compareCells.calls k t198 t199 t200 t201 t202 _ A5.out).mono ?_
 rintro e w11 ⟨rfl,hb⟩;refine ⟨_,rfl,?_⟩;replace BK196:=am_ (kB_ BK196.out hb);replace BK197:=am_ (kB_ BK197.out hb);replace HB:=am_ (bT_ HB.out hb);(try clear hb hb2 hk hi);refine hK.out _ _ ⟨(kC_ BK196.out 0).trans rfl,(kC_ BK196.out 1).trans rfl,(kC_ BK196.out 2).trans rfl,(kC_ BK196.out 3).trans rfl,(kC_ BK197.out 0).trans rfl,(kC_ BK197.out 1).trans rfl,(kC_ BK197.out 2).trans rfl,(kC_ BK197.out 3).trans rfl⟩ (fun hHeld=>?_);clear hK K;refine norm_ (a':=?_) ?_ ?_;rotate_left
 · show Act.put _ (some 9) _ = _;simp only [Act.put,z1_,z2_,z3_,i64_w,i32_w];rfl
 refine pure_ (i:=5) (N:=some 4) (v:=?_) (a':=?_) (mB_ 6 63) rfl rfl (by kernel_rfl) (fun _ _ _ h=>h) (Or.inl ⟨by rfl,?_⟩) ?_ ?_;rotate_left;(· intro w';go_simp;with_reducible rfl);rotate_left;(· simp only [Act.put,z1_,z2_,z3_,i64_w,i32_w];rfl)
 refine done_ (by kernel_rfl) ?_
 try go_wp2
 go_ret
 exact ⟨by first|rfl|(simp [errW_none,errW_some] <;> rfl)|(simp [*,errW_none,errW_some] <;> rfl),by repeat (first|(with_reducible first|exact HB.out|apply bA_|apply bN_|apply bD_|refine bS_ ?_ GE196.out|refine bS_ ?_ GE197.out)|exact HB.out)⟩
def impl_within.f (a0 : Int) (a1 : Int) (a2 : Int) : Option (Bool) := if a1 ≤ a0 then (some (decide (a0 ≤ a2))) else (some false)
set_option maxHeartbeats 8000000 in
set_option maxRecDepth 100000 in
theorem impl_within.calls (a0 : Int) (a1 : Int) (a2 : Int) (r : Bool) (w : World) (h : impl_within.f a0 a1 a2 = some r) :
  Calls Try.prog 45 #[.int .i64 a0,.int .i64 a1,.int .i64 a2] w fun e w'=>e = .returned (.bool r) ∧ Drawn0 w w':=by
 have H : (if a1≤a0 then (some (decide (a0≤a2))) else (some false)) = some r:=h;clear h
 by_cases c4 : a1≤a0
 ·
  rw [if_pos c4] at H;have c4b0 : decide (a1≤a0) = true:=decide_eq_true c4;clear c4;obtain rfl:=Option.some.inj H
  go_enter Try.func45,Try.ntmps45
  go_wp2
  go_ret
  exact ⟨by first|rfl|(simp;done)|(simp [*];done),by repeat (first|exact Drawn0.refl _|apply Drawn0.step)⟩
 ·
  rw [if_neg c4] at H;have c4b0 : decide (a1≤a0) = false:=decide_eq_false c4;clear c4;obtain rfl:=Option.some.inj H
  go_enter Try.func45,Try.ntmps45
  go_wp2
  go_ret
  exact ⟨by first|rfl|(simp;done)|(simp [*];done),by repeat (first|exact Drawn0.refl _|apply Drawn0.step)⟩
def impl_isEdge.f (a0 : Int) : Option (Bool) := (impl_within.f a0 1 12).bind fun t203 => (some t203)
set_option maxHeartbeats 8000000 in
set_option maxRecDepth 100000 in
theorem impl_isEdge.calls (a0 : Int) (r : Bool) (w : World) (h : impl_isEdge.f a0 = some r) :
  Calls Try.prog 52 #[.int .i64 a0] w fun e w'=>e = .returned (.bool r) ∧ Drawn0 w w':=by
 have H : ((impl_within.f a0 1 12).bind fun t203=>(some t203)) = some r:=h;clear h;replace H:=Option.bind_eq_some_iff.mp H;obtain ⟨t203,A20,H⟩:=H;replace H : (some t203) = some r:=H;have A2:=am_ A20;clear A20;obtain rfl:=Option.some.inj H
 go_enter Try.func52,Try.ntmps52
 go_wp2_with (first|((with_reducible refine gate_callee (f:=45) rfl ?_);refine goesL_ (some 4) rfl rfl Try.func45 (by kernel_rfl) rfl #[.int .i64 a0,.int .i64 1,.int .i64 12] rfl (by (try simp only [List.map_toArray,List.map_cons,List.map_nil]);first|done|rfl|(simp only [List.length_drop,List.length_take];rfl)) ?_;(with_reducible refine (impl_within.calls a0 1 12 t203 _ A2.out).mono ?_);rintro e w' ⟨rfl,⟨nd,rfl⟩⟩;refine ⟨_,rfl,?_⟩))
 go_ret
 exact ⟨by first|rfl|(simp;done)|(simp [*];done),by repeat (first|exact Drawn0.refl _|apply Drawn0.step)⟩
end Go.Proofs.Ytgpfjmkmopjfbaa.Q
