-- By a program of this session's: of the print's words what this claim needs. Lean checks it.
import Derived.Test.YtjadgmafgkoanaaXQ0
import Derived.Test.YtjadgmafgkoanaaXQ9
namespace Go.Proofs.Ytjadgmafgkoanaa.Q
open Go.RowKit Go.Proofs.YtjadgmafgkoanaaW.PrintWords Go.Proofs.YtjadgmafgkoanaaW.PrintLast Go.Proofs.YtjadgmafgkoanaaW.PrintMore
attribute [local go_sem] max2_int min2_int max_two min_two max_three min_three max_four min_four
set_option linter.unusedVariables false
set_option linter.unusedSimpArgs false
def impl_Slab_first.f (a0_0 : Int) (a0_1 : Int) (a0_2 : Int) (a0_3 : Int) : Option (Int × Int) := some (a0_0, a0_1)
set_option maxHeartbeats 8000000 in
set_option maxRecDepth 100000 in
theorem impl_Slab_first.calls (a0_0 : Int) (a0_1 : Int) (a0_2 : Int) (a0_3 : Int) (r1 : Int) (r2 : Int) (w : World) (h : impl_Slab_first.f a0_0 a0_1 a0_2 a0_3 = some (r1, r2)) :
  Calls Try.prog 102 #[.agg #[.int .i8 a0_0,.int .i8 a0_1,.int .i8 a0_2,.int .i8 a0_3]] w fun e w'=>e = .returned (.agg #[.int .i8 r1,.int .i8 r2]) ∧ Below w.heap.size w w':=by
 have hu49:=Try.underlying49;have hu96:=Try.underlying96;have HB:=am_ (Below.refl w.heap.size w);have H : (some (a0_0,a0_1)) = some (r1,r2):=h;clear h;simp only [Option.some.injEq,Prod.mk.injEq] at H;obtain ⟨rfl,rfl⟩:=H
 go_enter Try.func102,Try.ntmps102
 go_wp2_with (first|((with_reducible refine gate_dst (N:=1) rfl ?_);refine box_event ?hg (N:=1) ?hd (cs:=#[.int .i8 a0_0,.int .i8 a0_1,.int .i8 a0_2,.int .i8 a0_3]) (t:=49) ?hr ?_;(case hd=>rfl);(case hg=>rfl);(case hr=>first|(go_simp;done)|(go_simp;rfl));intro gb278 hg w2 hbox hb;have n0_:=am_ (bT_ HB.out hb);have n1_:=am_ (hbox);have n2_:=am_ ((by rw [hg];exact (bZ_ HB.out) : w.heap.size≤gb278));have n3_:=n2_;clear HB;have HB:=n0_;have BK278:=n1_;have GW278:=n2_;have GE278:=n3_;clear n0_ n1_ n2_ n3_;clear hb hbox hg)|((with_reducible refine gate_dst (N:=2) rfl ?_);refine box_event ?hg (N:=2) ?hd (cs:=#[.int .i8 0,.int .i8 0]) (t:=96) ?hr ?_;(case hd=>rfl);(case hg=>rfl);(case hr=>first|(go_simp;done)|(go_simp;rfl));intro gb279 hg w3 hbox hb;have n0_:=am_ (kB_ BK278.out hb);have n1_:=am_ (bT_ HB.out hb);have n2_:=am_ (hbox);have n3_:=am_ ((by rw [hg];exact (bZ_ HB.out) : w.heap.size≤gb279));have n4_:=n3_;have n5_:=am_ ((by rw [hg];exact nL_ (kL_ BK278.out) : gb278 ≠ gb279));have n6_:=am_ ((by rw [hg];exact nG_ (kL_ BK278.out) : gb279 ≠ gb278));clear BK278;clear HB;have BK278:=n0_;have HB:=n1_;have BK279:=n2_;have GW279:=n3_;have GE279:=n4_;have NB278_279:=n5_;have NB279_278:=n6_;clear n0_ n1_ n2_ n3_ n4_ n5_ n6_;clear hb hbox hg;have hnb4:=NB278_279.out;have hnc4:=NB279_278.out;have hcz5_0 : w3.cell? ⟨gb278,0,none⟩ = some (.int .i8 a0_0):=(kC_ BK278.out 0).trans rfl;have hcz5_1 : w3.cell? ⟨gb278,1,none⟩ = some (.int .i8 a0_1):=(kC_ BK278.out 1).trans rfl;have hcz5_2 : w3.cell? ⟨gb278,2,none⟩ = some (.int .i8 a0_2):=(kC_ BK278.out 2).trans rfl;have hcz5_3 : w3.cell? ⟨gb278,3,none⟩ = some (.int .i8 a0_3):=(kC_ BK278.out 3).trans rfl;have hfz5_0:=kF_ BK278.out 0;have hfz5_1:=kF_ BK278.out 1;have hfz5_2:=kF_ BK278.out 2;have hfz5_3:=kF_ BK278.out 3;have hcz6_0 : w3.cell? ⟨gb279,0,none⟩ = some (.int .i8 0):=(kC_ BK279.out 0).trans rfl;have hcz6_1 : w3.cell? ⟨gb279,1,none⟩ = some (.int .i8 0):=(kC_ BK279.out 1).trans rfl;have hfz6_0:=kF_ BK279.out 0;have hfz6_1:=kF_ BK279.out 1))
 refine bodyPost_ret (results_cell_row rfl _ _ gb279 96 #[.int .i8 a0_0,.int .i8 a0_1] (0,0) _ rfl (by (with_reducible repeat (first|apply kN_|apply kD_|apply kA_));refine blk_put (cs:=#[.int .i8 a0_0,.int .i8 0]) ?_ 1 _ rfl;(with_reducible repeat (first|apply kN_|apply kD_|apply kA_));refine blk_put (cs:=#[.int .i8 0,.int .i8 0]) ?_ 0 _ rfl;(with_reducible repeat (first|apply kN_|apply kD_|apply kA_));exact BK279.out) Try.underlying96 rfl (by kernel_rfl)) rfl ?_;exact ⟨by first|rfl|(simp [errW_none,errW_some] <;> rfl)|(simp [*,errW_none,errW_some] <;> rfl),by repeat (first|(with_reducible first|exact HB.out|apply bA_|apply bN_|apply bD_|refine bS_ ?_ GE278.out|refine bS_ ?_ GE279.out)|exact HB.out)⟩
def impl_compareSlabs.f (k : Nat) (a0_0 : Int) (a0_1 : Int) (a0_2 : Int) (a0_3 : Int) (a1_0 : Int) (a1_1 : Int) (a1_2 : Int) (a1_3 : Int) : Option (Int) := (impl_Slab_first.f a0_0 a0_1 a0_2 a0_3).bind fun bt282 => ((impl_Slab_first.f a1_0 a1_1 a1_2 a1_3).bind fun bt284 => ((impl_compareCells.f k bt282.1 bt282.2 bt284.1 bt284.2).bind fun t286 => (some t286)))
theorem impl_compareSlabs.mono : ∀ a0 a1 a2 a3 a4 a5 a6 a7 k, LeO (impl_compareSlabs.f k a0 a1 a2 a3 a4 a5 a6 a7) (impl_compareSlabs.f (k + 1) a0 a1 a2 a3 a4 a5 a6 a7) := by
 intro a0 a1 a2 a3 a4 a5 a6 a7 k
 unfold impl_compareSlabs.f
 repeat' first
   | (with_reducible exact impl_compareCells.mono _ _ _ _ _)
   | (with_reducible exact LeO.refl _)
   | (with_reducible exact LeO.none _)
   | (with_reducible refine LeO.ite ?_ ?_)
   | (with_reducible refine LeO.bind ?_ (fun _=>?_))
   | exact impl_compareCells.mono _ _ _ _ _
   | exact LeO.none _
   | refine LeO.ite ?_ ?_
   | refine LeO.bind ?_ (fun _=>?_)
set_option maxHeartbeats 8000000 in
set_option maxRecDepth 100000 in
theorem impl_compareSlabs.calls (k : Nat) (a0_0 : Int) (a0_1 : Int) (a0_2 : Int) (a0_3 : Int) (a1_0 : Int) (a1_1 : Int) (a1_2 : Int) (a1_3 : Int) (r : Int) (w : World) (h : impl_compareSlabs.f k a0_0 a0_1 a0_2 a0_3 a1_0 a1_1 a1_2 a1_3 = some r) :
  Calls Try.prog 84 #[.agg #[.int .i8 a0_0,.int .i8 a0_1,.int .i8 a0_2,.int .i8 a0_3],.agg #[.int .i8 a1_0,.int .i8 a1_1,.int .i8 a1_2,.int .i8 a1_3]] w fun e w'=>e = .returned (.int .i64 r) ∧ Below w.heap.size w w':=by
 have hu49:=Try.underlying49;have HB:=am_ (Below.refl w.heap.size w);have H : ((impl_Slab_first.f a0_0 a0_1 a0_2 a0_3).bind fun bt282=>((impl_Slab_first.f a1_0 a1_1 a1_2 a1_3).bind fun bt284=>((impl_compareCells.f k bt282.1 bt282.2 bt284.1 bt284.2).bind fun t286=>(some t286)))) = some r:=h;clear h;replace H:=Option.bind_eq_some_iff.mp H;obtain ⟨⟨t282,t283⟩,A30,H⟩:=H;replace H : ((impl_Slab_first.f a1_0 a1_1 a1_2 a1_3).bind fun bt284=>((impl_compareCells.f k t282 t283 bt284.1 bt284.2).bind fun t286=>(some t286))) = some r:=H;have A3:=am_ A30;clear A30;replace H:=Option.bind_eq_some_iff.mp H;obtain ⟨⟨t284,t285⟩,A40,H⟩:=H;replace H : ((impl_compareCells.f k t282 t283 t284 t285).bind fun t286=>(some t286)) = some r:=H;have A4:=am_ A40;clear A40;replace H:=Option.bind_eq_some_iff.mp H;obtain ⟨t286,A50,H⟩:=H;replace H : (some t286) = some r:=H;have A5:=am_ A50;clear A50;obtain rfl:=Option.some.inj H
 go_enter Try.func84,Try.ntmps84
 try go_wp2_with (first|((with_reducible refine gate_dst (N:=2) rfl ?_);refine box_event ?hg (N:=2) ?hd (cs:=#[.int .i8 a0_0,.int .i8 a0_1,.int .i8 a0_2,.int .i8 a0_3]) (t:=49) ?hr ?_;(case hd=>rfl);(case hg=>rfl);(case hr=>first|(go_simp;done)|(go_simp;rfl));intro gb280 hg w6 hbox hb;have n0_:=am_ (bT_ HB.out hb);have n1_:=am_ (hbox);have n2_:=am_ ((by rw [hg];exact (bZ_ HB.out) : w.heap.size≤gb280));have n3_:=n2_;clear HB;have HB:=n0_;have BK280:=n1_;have GW280:=n2_;have GE280:=n3_;clear n0_ n1_ n2_ n3_;clear hb hbox hg)|((with_reducible refine gate_dst (N:=3) rfl ?_);refine box_event ?hg (N:=3) ?hd (cs:=#[.int .i8 a1_0,.int .i8 a1_1,.int .i8 a1_2,.int .i8 a1_3]) (t:=49) ?hr ?_;(case hd=>rfl);(case hg=>rfl);(case hr=>first|(go_simp;done)|(go_simp;rfl));intro gb281 hg w7 hbox hb;have n0_:=am_ (kB_ BK280.out hb);have n1_:=am_ (bT_ HB.out hb);have n2_:=am_ (hbox);have n3_:=am_ ((by rw [hg];exact (bZ_ HB.out) : w.heap.size≤gb281));have n4_:=n3_;have n5_:=am_ ((by rw [hg];exact nL_ (kL_ BK280.out) : gb280 ≠ gb281));have n6_:=am_ ((by rw [hg];exact nG_ (kL_ BK280.out) : gb281 ≠ gb280));clear BK280;clear HB;have BK280:=n0_;have HB:=n1_;have BK281:=n2_;have GW281:=n3_;have GE281:=n4_;have NB280_281:=n5_;have NB281_280:=n6_;clear n0_ n1_ n2_ n3_ n4_ n5_ n6_;clear hb hbox hg))
 have n0_:=am_ (kD_ BK280.out);have n1_:=am_ (kD_ BK281.out);have n2_:=am_ (bD_ HB.out);clear BK280;clear BK281;clear HB;have BK280:=n0_;have BK281:=n1_;have HB:=n2_;clear n0_ n1_ n2_;refine start_ (n:=6) (S:=fun w'=>w'.cell? ⟨gb280,0,none⟩ = some (.int .i8 a0_0) ∧ w'.cell? ⟨gb280,1,none⟩ = some (.int .i8 a0_1) ∧ w'.cell? ⟨gb280,2,none⟩ = some (.int .i8 a0_2) ∧ w'.cell? ⟨gb280,3,none⟩ = some (.int .i8 a0_3) ∧ w'.cell? ⟨gb281,0,none⟩ = some (.int .i8 a1_0) ∧ w'.cell? ⟨gb281,1,none⟩ = some (.int .i8 a1_1) ∧ w'.cell? ⟨gb281,2,none⟩ = some (.int .i8 a1_2) ∧ w'.cell? ⟨gb281,3,none⟩ = some (.int .i8 a1_3)) (ds:=[]) (mB_ 6 0) (by kernel_rfl) rfl rfl ⟨(kC_ BK280.out 0).trans rfl,(kC_ BK280.out 1).trans rfl,(kC_ BK280.out 2).trans rfl,(kC_ BK280.out 3).trans rfl,(kC_ BK281.out 0).trans rfl,(kC_ BK281.out 1).trans rfl,(kC_ BK281.out 2).trans rfl,(kC_ BK281.out 3).trans rfl⟩ (fun hHeld=>?_);generalize w7.drew = w8 at BK280 BK281 HB hHeld ⊢;refine take_ (i:=0) (N:=some 5) (v:=?_) (a':=?_) (mB_ 6 1) rfl rfl (by kernel_rfl) (fun _ _ _ h=>h) (Or.inl ⟨by rfl,?_⟩) hHeld ?_ ?_;rotate_left
 ·
  rintro w' ⟨s0,s1,s2,s3,s4,s5,s6,s7⟩
  go_simp
  with_reducible rfl
 rotate_left
 ·
  simp only [Act.put,z1_,z2_,z3_,i64_w,i32_w]
  rfl
 refine take_ (i:=2) (N:=some 7) (v:=?_) (a':=?_) (mB_ 6 5) rfl rfl (by kernel_rfl) (fun _ _ _ h=>h) (Or.inl ⟨by rfl,?_⟩) hHeld ?_ ?_;rotate_left
 ·
  rintro w' ⟨s0,s1,s2,s3,s4,s5,s6,s7⟩
  go_simp
  with_reducible rfl
 rotate_left
 ·
  simp only [Act.put,z1_,z2_,z3_,i64_w,i32_w]
  rfl
 refine one_ (i:=1) (N:=some 6) (mB_ 6 7) rfl rfl (by kernel_rfl) (by decide) (fun K hK=>?_);refine goes_ Try.func102 (by kernel_rfl) rfl #[.agg #[.int .i8 a0_0,.int .i8 a0_1,.int .i8 a0_2,.int .i8 a0_3]] (by rfl) rfl rfl (by (try simp only [List.map_toArray,List.map_cons,List.map_nil]);first|done|rfl|(simp only [List.length_drop,List.length_take];rfl)) ?_
 with_reducible refine (impl_Slab_first.calls a0_0 a0_1 a0_2 a0_3 t282 t283 _ A3.out).mono ?_
 rintro e w9 ⟨rfl,hb⟩;refine ⟨_,rfl,?_⟩;have n0_:=am_ (kB_ BK280.out hb);have n1_:=am_ (kB_ BK281.out hb);have n2_:=am_ (bT_ HB.out hb);clear BK280;clear BK281;clear HB;have BK280:=n0_;have BK281:=n1_;have HB:=n2_;clear n0_ n1_ n2_;(try clear hb);(try clear hb2);(try clear hk);(try clear hi);refine hK.out _ _ ⟨(kC_ BK280.out 0).trans rfl,(kC_ BK280.out 1).trans rfl,(kC_ BK280.out 2).trans rfl,(kC_ BK280.out 3).trans rfl,(kC_ BK281.out 0).trans rfl,(kC_ BK281.out 1).trans rfl,(kC_ BK281.out 2).trans rfl,(kC_ BK281.out 3).trans rfl⟩ (fun hHeld=>?_);clear hK K;refine norm_ (a':=?_) ?_ ?_;rotate_left
 ·
  show Act.put _ (some 6) _ = _
  simp only [Act.put,z1_,z2_,z3_,i64_w,i32_w]
  rfl
 refine one_ (i:=3) (N:=some 8) (mB_ 6 15) rfl rfl (by kernel_rfl) (by decide) (fun K hK=>?_);refine goes_ Try.func102 (by kernel_rfl) rfl #[.agg #[.int .i8 a1_0,.int .i8 a1_1,.int .i8 a1_2,.int .i8 a1_3]] (by rfl) rfl rfl (by (try simp only [List.map_toArray,List.map_cons,List.map_nil]);first|done|rfl|(simp only [List.length_drop,List.length_take];rfl)) ?_
 with_reducible refine (impl_Slab_first.calls a1_0 a1_1 a1_2 a1_3 t284 t285 _ A4.out).mono ?_
 rintro e w10 ⟨rfl,hb⟩;refine ⟨_,rfl,?_⟩;have n0_:=am_ (kB_ BK280.out hb);have n1_:=am_ (kB_ BK281.out hb);have n2_:=am_ (bT_ HB.out hb);clear BK280;clear BK281;clear HB;have BK280:=n0_;have BK281:=n1_;have HB:=n2_;clear n0_ n1_ n2_;(try clear hb);(try clear hb2);(try clear hk);(try clear hi);refine hK.out _ _ ⟨(kC_ BK280.out 0).trans rfl,(kC_ BK280.out 1).trans rfl,(kC_ BK280.out 2).trans rfl,(kC_ BK280.out 3).trans rfl,(kC_ BK281.out 0).trans rfl,(kC_ BK281.out 1).trans rfl,(kC_ BK281.out 2).trans rfl,(kC_ BK281.out 3).trans rfl⟩ (fun hHeld=>?_);clear hK K;refine norm_ (a':=?_) ?_ ?_;rotate_left
 ·
  show Act.put _ (some 8) _ = _
  simp only [Act.put,z1_,z2_,z3_,i64_w,i32_w]
  rfl
 refine one_ (i:=4) (N:=some 9) (mB_ 6 31) rfl rfl (by kernel_rfl) (by decide) (fun K hK=>?_);refine goes_ Try.func101 (by kernel_rfl) rfl #[.agg #[.int .i8 t282,.int .i8 t283],.agg #[.int .i8 t284,.int .i8 t285]] (by rfl) rfl rfl (by (try simp only [List.map_toArray,List.map_cons,List.map_nil]);first|done|rfl|(simp only [List.length_drop,List.length_take];rfl)) ?_
 with_reducible refine (impl_compareCells.calls k t282 t283 t284 t285 t286 _ A5.out).mono ?_
 rintro e w11 ⟨rfl,hb⟩;refine ⟨_,rfl,?_⟩;have n0_:=am_ (kB_ BK280.out hb);have n1_:=am_ (kB_ BK281.out hb);have n2_:=am_ (bT_ HB.out hb);clear BK280;clear BK281;clear HB;have BK280:=n0_;have BK281:=n1_;have HB:=n2_;clear n0_ n1_ n2_;(try clear hb);(try clear hb2);(try clear hk);(try clear hi);refine hK.out _ _ ⟨(kC_ BK280.out 0).trans rfl,(kC_ BK280.out 1).trans rfl,(kC_ BK280.out 2).trans rfl,(kC_ BK280.out 3).trans rfl,(kC_ BK281.out 0).trans rfl,(kC_ BK281.out 1).trans rfl,(kC_ BK281.out 2).trans rfl,(kC_ BK281.out 3).trans rfl⟩ (fun hHeld=>?_);clear hK K;refine norm_ (a':=?_) ?_ ?_;rotate_left
 ·
  show Act.put _ (some 9) _ = _
  simp only [Act.put,z1_,z2_,z3_,i64_w,i32_w]
  rfl
 refine pure_ (i:=5) (N:=some 4) (v:=?_) (a':=?_) (mB_ 6 63) rfl rfl (by kernel_rfl) (fun _ _ _ h=>h) (Or.inl ⟨by rfl,?_⟩) ?_ ?_;rotate_left
 ·
  intro w'
  go_simp
  with_reducible rfl
 rotate_left
 ·
  simp only [Act.put,z1_,z2_,z3_,i64_w,i32_w]
  rfl
 refine done_ (by kernel_rfl) ?_
 try go_wp2
 go_ret
 exact ⟨by first|rfl|(simp [errW_none,errW_some] <;> rfl)|(simp [*,errW_none,errW_some] <;> rfl),by repeat (first|(with_reducible first|exact HB.out|apply bA_|apply bN_|apply bD_|refine bS_ ?_ GE280.out|refine bS_ ?_ GE281.out)|exact HB.out)⟩
end Go.Proofs.Ytjadgmafgkoanaa.Q
