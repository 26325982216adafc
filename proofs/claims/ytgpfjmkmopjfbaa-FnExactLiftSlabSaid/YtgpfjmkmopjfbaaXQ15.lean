-- Trimmed by a program.
import Derived.Test.YtgpfjmkmopjfbaaXQ0
import Derived.Test.YtgpfjmkmopjfbaaXQ13
import Derived.Test.YtgpfjmkmopjfbaaXQ14
import Derived.Deep.RegionLaw
import Derived.Lib.SliceRun
namespace Go.Proofs.Ytgpfjmkmopjfbaa.Q
open RowKit YtgpfjmkmopjfbaaW.PrintWords YtgpfjmkmopjfbaaW.PrintLast YtgpfjmkmopjfbaaW.PrintMore
attribute [local go_sem] max2_int min2_int max_two min_two max_three min_three max_four min_four
set_option linter.unusedVariables false
set_option linter.unusedSimpArgs false
def impl_Square_with.f (a0_0 : Int) (a0_1 : Int) (l0_2 : List (S31)) (l1 : List (S31)) : Option (Int × Int × (List (S31))) := (impl_Slab_26.f l1).bind fun t261 => ((slices_SortFunc_impl_Slab_at_impl_compareSlabs.f t261).bind fun t264 => (some (a0_0, a0_1, t264)))
set_option maxHeartbeats 8000000 in
set_option maxRecDepth 100000 in
theorem impl_Square_with.calls (a0_0 : Int) (a0_1 : Int) (A0_2 : Option Addr) (c0_2 : Nat) (l0_2 : List (S31)) (A1 : Option Addr) (c1 : Nat) (l1 : List (S31)) (r1 : Int) (r2 : Int) (r3 : List (S31)) (w : World) (hr0_2 : Kd.C k31 w A0_2 l0_2.length l0_2) (hc0_2 : l0_2.length ≤ c0_2) (hr1 : Kd.C k31 w A1 l1.length l1) (hc1 : l1.length ≤ c1) (h : impl_Square_with.f a0_0 a0_1 l0_2 l1 = some (r1, r2, r3)) :
  Calls Try.prog 24 #[.agg #[.int .i8 a0_0,.int .i8 a0_1,.slice A0_2 l0_2.length c0_2],.slice A1 l1.length c1] w fun e w'=>∃ v2_ : Value,e = .returned (.agg #[.int .i8 r1,.int .i8 r2,v2_]) ∧ Kd.R k31 31 w' w.heap.size (fun _=>True) v2_ r3 ∧ Below w.heap.size w w':=by
 have hu29:=Try.underlying29;have HR0_2:=am_ hr0_2;have HC0_2:=am_ hc0_2;clear hr0_2 hc0_2;have HR1:=am_ hr1;have HC1:=am_ hc1;clear hr1 hc1;have HB:=am_ (Below.refl w.heap.size w);have H : ((impl_Slab_26.f l1).bind fun t261=>((slices_SortFunc_impl_Slab_at_impl_compareSlabs.f t261).bind fun t264=>(some (a0_0,a0_1,t264)))) = some (r1,r2,r3):=h;clear h;replace H:=Option.bind_eq_some_iff.mp H;obtain ⟨t261,A30,H⟩:=H;replace H : ((slices_SortFunc_impl_Slab_at_impl_compareSlabs.f t261).bind fun t264=>(some (a0_0,a0_1,t264))) = some (r1,r2,r3):=H;have A3:=am_ A30;clear A30;replace H:=Option.bind_eq_some_iff.mp H;obtain ⟨t264,A40,H⟩:=H;replace H : (some (a0_0,a0_1,t264)) = some (r1,r2,r3):=H;have A4:=am_ A40;clear A40;simp only [Option.some.injEq,Prod.mk.injEq] at H;obtain ⟨rfl,rfl,rfl⟩:=H
 go_enter Try.func24,Try.ntmps24
 go_wp2_with (first|((with_reducible refine gate_dst (N:=2) rfl ?_);refine box_event ?hg (N:=2) ?hd (cs:=#[.int .i8 a0_0,.int .i8 a0_1,.slice A0_2 l0_2.length c0_2]) (t:=29) ?hr ?_;(case hd=>rfl);(case hg=>rfl);(case hr=>first|(go_simp;done)|(go_simp;rfl));intro gb259 hg w5 hbox hb;have n0_:=am_ (bT_ HB.out hb);have n1_:=am_ (hbox);have n2_:=am_ ((by rw [hg];exact (bZ_ HB.out) : w.heap.size≤gb259));have n3_:=n2_;clear HB;have HB:=n0_;have BK259:=n1_;have GW259:=n2_;have GE259:=n3_;clear n0_ n1_ n2_ n3_;clear hb hbox hg)|((with_reducible refine gate_dst (N:=4) rfl ?_);refine box_event ?hg (N:=4) ?hd (cs:=#[.int .i8 0,.int .i8 0,.slice none 0 0]) (t:=29) ?hr ?_;(case hd=>rfl);(case hg=>rfl);(case hr=>first|(go_simp;done)|(go_simp;rfl));intro gb260 hg w6 hbox hb;have n0_:=am_ (kB_ BK259.out hb);have n1_:=am_ (bT_ HB.out hb);have n2_:=am_ (hbox);have n3_:=am_ ((by rw [hg];exact (bZ_ HB.out) : w.heap.size≤gb260));have n4_:=n3_;have n5_:=am_ ((by rw [hg];exact nL_ (kL_ BK259.out) : gb259 ≠ gb260));have n6_:=am_ ((by rw [hg];exact nG_ (kL_ BK259.out) : gb260 ≠ gb259));clear BK259;clear HB;have BK259:=n0_;have HB:=n1_;have BK260:=n2_;have GW260:=n3_;have GE260:=n4_;have NB259_260:=n5_;have NB260_259:=n6_;clear n0_ n1_ n2_ n3_ n4_ n5_ n6_;clear hb hbox hg)|((with_reducible refine gate_callee (f:=26) rfl ?_);refine goesL_ (some 7) rfl rfl Try.func26 (by kernel_rfl) rfl #[.slice A1 l1.length c1] rfl (by (try simp only [List.map_toArray,List.map_cons,List.map_nil]);first|done|rfl|(simp only [List.length_drop,List.length_take];rfl)) ?_;(with_reducible refine (impl_Slab_26.calls _ _ l1 t261 _ ?side1 ?side2 A3.out).mono ?_);(case side1=>repeat (first|exact (cB_ HR1.out HB.out)|(with_reducible refine Kd.C_alloc ?_ _)|(with_reducible refine Kd.C_drewN ?_ _)|(with_reducible refine Kd.C_drew ?_)));(case side2=>exact HC1.out);rintro e w7 ⟨v262,rfl,ho0,hb⟩;refine ⟨_,rfl,?_⟩;have HO263:=am_ (Kd.R_lower ho0 (bZ_ HB.out));replace BK259:=am_ (kB_ BK259.out hb);replace BK260:=am_ (kB_ BK260.out hb);replace HB:=am_ (bT_ HB.out hb);(try clear hb hb2 hk hi ho0);obtain ⟨Ao8,co8,eo8⟩:=Kd.R_slice HO263.out;subst eo8)|((with_reducible refine gate_callee (f:=47) rfl ?_);refine goesL_ (some 9) rfl rfl Try.func47 (by kernel_rfl) rfl #[.slice Ao8 t261.length co8,.func (.func 48) #[] #[]] rfl (by (try simp only [List.map_toArray,List.map_cons,List.map_nil]);first|done|rfl|(simp only [List.length_drop,List.length_take];rfl)) ?_;(with_reducible refine (slices_SortFunc_impl_Slab_at_impl_compareSlabs.calls (fun k_=>some k_ = (.slice Ao8 t261.length co8 : Value).ownBlock) (.slice Ao8 t261.length co8) t261  t264 w _ ?side1 ?side2 A4.out).mono ?_);(case side1=>repeat (first|(with_reducible first|exact HB.out|apply bA_|apply bN_|apply bD_|refine bS_ ?_ GE259.out|refine bS_ ?_ GE260.out)|exact HB.out));(case side2=>exact Kd.R_tight rfl HO263.out);rintro e w9 ⟨rfl,hy0,hb,hkp⟩;refine ⟨_,rfl,?_⟩;replace BK259:=am_ (blk_kept BK259.out hkp (fun hs_=>(fun e_=>(Kd.R_ne HO263.out BK259.out (by decide)) e_) hs_));replace BK260:=am_ (blk_kept BK260.out hkp (fun hs_=>(fun e_=>(Kd.R_ne HO263.out BK260.out (by decide)) e_) hs_));replace HO263:=am_ (Kd.R_reok rfl hy0 (fun k_ e_=>HO263.out.1 k_ e_));replace HB:=am_ (hb);(try clear hb hkp hy0);have hnb10:=NB259_260.out;have hnc10:=NB260_259.out;have hcz11_0 : w9.cell? ⟨gb259,0,none⟩ = some (.int .i8 a0_0):=(kC_ BK259.out 0).trans rfl;have hcz11_1 : w9.cell? ⟨gb259,1,none⟩ = some (.int .i8 a0_1):=(kC_ BK259.out 1).trans rfl;have hcz11_2 : w9.cell? ⟨gb259,2,none⟩ = some (.slice A0_2 l0_2.length c0_2):=(kC_ BK259.out 2).trans rfl;have hfz11_0:=kF_ BK259.out 0;have hfz11_1:=kF_ BK259.out 1;have hfz11_2:=kF_ BK259.out 2;have hcz12_0 : w9.cell? ⟨gb260,0,none⟩ = some (.int .i8 0):=(kC_ BK260.out 0).trans rfl;have hcz12_1 : w9.cell? ⟨gb260,1,none⟩ = some (.int .i8 0):=(kC_ BK260.out 1).trans rfl;have hcz12_2 : w9.cell? ⟨gb260,2,none⟩ = some (.slice none 0 0):=(kC_ BK260.out 2).trans rfl;have hfz12_0:=kF_ BK260.out 0;have hfz12_1:=kF_ BK260.out 1;have hfz12_2:=kF_ BK260.out 2))
 refine bodyPost_ret (results_cell_row rfl _ _ gb260 29 #[.int .i8 a0_0,.int .i8 a0_1,.slice Ao8 t261.length co8] (0,0) _ rfl (by (with_reducible repeat (first|apply kN_|apply kD_|apply kA_));refine blk_put (cs:=#[.int .i8 a0_0,.int .i8 a0_1,.slice none 0 0]) ?_ 2 _ rfl;(with_reducible repeat (first|apply kN_|apply kD_|apply kA_));refine blk_put (cs:=#[.int .i8 a0_0,.int .i8 0,.slice none 0 0]) ?_ 1 _ rfl;(with_reducible repeat (first|apply kN_|apply kD_|apply kA_));refine blk_put (cs:=#[.int .i8 0,.int .i8 0,.slice none 0 0]) ?_ 0 _ rfl;(with_reducible repeat (first|apply kN_|apply kD_|apply kA_));exact BK260.out) Try.underlying29 rfl (by kernel_rfl)) rfl ?_;exact ⟨_,by first|rfl|(simp [errW_none,errW_some] <;> rfl)|(simp [*,errW_none,errW_some] <;> rfl),by (with_reducible repeat (first|apply Kd.R_alloc|apply Kd.R_drewN|apply Kd.R_drew));exact rM_ (Kd.R_far (p:=⟨gb260,2,none⟩) (Kd.R_far (p:=⟨gb260,1,none⟩) (Kd.R_far (p:=⟨gb260,0,none⟩) (Kd.R_types HO263.out BK260.out (by decide)) (fun _ hk=>hk.2) (.int .i8 a0_0)) (fun _ hk=>hk.2) (.int .i8 a0_1)) (fun _ hk=>hk.2) (.slice Ao8 t261.length co8)) (fun _ hk=>trivial),by repeat (first|(with_reducible first|exact HB.out|apply bA_|apply bN_|apply bD_|refine bS_ ?_ GE259.out|refine bS_ ?_ GE260.out)|exact HB.out)⟩
def impl_Slab_25.f (l0 : List S31) (a1 a2 : Int) : Option (List S31) := if 0 ≤ a1 ∧ a2 = a1 + 1 ∧ a2 ≤ l0.length then some (l0.eraseIdx a1.toNat) else none
def impl_Slab_25.setA : Array Value → Nat → List Value → Array Value
 | cs,_,[]=>cs
 | cs,o,v :: vs=>impl_Slab_25.setA (cs.setIfInBounds o v) (o + 1) vs
theorem impl_Slab_25.setA_size : ∀ (vs : List Value) (o : Nat) (cs : Array Value), (impl_Slab_25.setA cs o vs).size = cs.size
 | [],_,_=>rfl
 | v :: vs,o,cs=>by rw [impl_Slab_25.setA,impl_Slab_25.setA_size vs,Array.size_setIfInBounds]
theorem impl_Slab_25.setA_get : ∀ (vs : List Value) (o : Nat) (cs : Array Value) (t : Nat), o + vs.length ≤ cs.size → (impl_Slab_25.setA cs o vs)[t]? = if o ≤ t ∧ t < o + vs.length then vs[t - o]? else cs[t]?
 | [],o,cs,t,_=>by rw [impl_Slab_25.setA,if_neg (by simp only [List.length_nil];omega)]
 | v :: vs,o,cs,t,h=>by
  simp only [List.length_cons] at h ⊢;rw [impl_Slab_25.setA,impl_Slab_25.setA_get vs (o + 1) _ t (by rw [Array.size_setIfInBounds];omega)]
  by_cases h1 : o + 1≤t ∧ t < o + 1 + vs.length
  · rw [if_pos h1,if_pos (by omega),show t - o = (t - (o + 1)) + 1 by omega,List.getElem?_cons_succ]
  ·
   rw [if_neg h1]
   by_cases h2 : t = o
   ·
    subst h2;rw [if_pos (by omega),Nat.sub_self,List.getElem?_cons_zero,Array.getElem?_setIfInBounds_self_of_lt (by omega)]
   · rw [if_neg (by omega),Array.getElem?_setIfInBounds_ne (fun e=>h2 e.symm)]
theorem impl_Slab_25.blk : ∀ (vs : List Value) (o : Nat) (w : World) (g : Nat) (cs : Array Value) (e : TypeId), w.heap[g]? = some (.cells cs e (0, 0)) → (w.setCells g o vs).heap[g]? = some (.cells (impl_Slab_25.setA cs o vs) e (0, 0))
 | [],_,_,_,_,_,h=>h
 | v :: vs,o,w,g,cs,e,h=>impl_Slab_25.blk vs (o + 1) _ g _ e (blk_put h o v rfl)
theorem impl_Slab_25.far : ∀ (vs : List Value) (o : Nat) (w : World) (g k : Nat), g ≠ k → (w.setCells g o vs).heap[k]? = w.heap[k]?
 | [],_,_,_,_,_=>rfl
 | v :: vs,o,w,g,k,h=>(impl_Slab_25.far vs (o + 1) _ g k h).trans (by
  show (w.setCell ⟨g,o,none⟩ v).heap[k]? = _
  simp only [World.setCell];rw [Array.getElem?_modify,if_neg h])
theorem impl_Slab_25.kept : ∀ (vs : List Value) (o : Nat) (w : World) (g : Nat), (w.setCells g o vs).heap.size = w.heap.size ∧ (w.setCells g o vs).os = w.os ∧ (w.setCells g o vs).tape = w.tape ∧ (w.setCells g o vs).output = w.output
 | [],_,_,_=>⟨rfl,rfl,rfl,rfl⟩
 | v :: vs,o,w,g=>by
  obtain ⟨a,b,c,d⟩:=impl_Slab_25.kept vs (o + 1) (w.setCell ⟨g,o,none⟩ v) g;exact ⟨a.trans (by simp [World.setCell]),b,c,d⟩
theorem impl_Slab_25.reps {α : Type} (enc : α → List Value) (z : Nat) (hk : ∀ x, (enc x).length = z) (l : List α) (inner : List Value) (hl : inner.length = l.length * z) (hi : ∀ j p, l[j]? = some p → (inner.drop (j * z)).take z = enc p) (i : Nat) (h : i < l.length) :
  (inner.take (i * z) ++ inner.drop ((i + 1) * z)).length = (l.eraseIdx i).length * z ∧ ∀ j p,(l.eraseIdx i)[j]? = some p → ((inner.take (i * z) ++ inner.drop ((i + 1) * z)).drop (j * z)).take z = enc p:=by
 have h1 : (i + 1) * z≤l.length * z:=Nat.mul_le_mul_right z h;have h0 : (i + 1) * z = i * z + z:=Nat.succ_mul i z;have hlen : (inner.take (i * z)).length = i * z:=by rw [List.length_take];omega
 refine ⟨?_,fun j p hp=>?_⟩
 ·
  rw [List.length_append,hlen,List.length_drop,hl,List.length_eraseIdx,if_pos h,Nat.sub_mul]
  omega
 ·
  rw [List.getElem?_eraseIdx] at hp
  by_cases hj : j < i
  · rw [if_pos hj] at hp;rw [← hi j p hp];have h2 : (j + 1) * z≤i * z:=Nat.mul_le_mul_right z hj;rw [Nat.succ_mul] at h2;rw [List.drop_append_of_le_length (by omega),List.take_append_of_le_length (by rw [List.length_drop];omega),List.drop_take,List.take_take,Nat.min_eq_left (by omega)]
  · rw [if_neg hj] at hp;rw [← hi (j + 1) p hp];have h2 : i * z≤j * z:=Nat.mul_le_mul_right z (by omega);rw [List.drop_append,hlen,List.drop_eq_nil_of_le (by omega),List.nil_append,List.drop_drop,Nat.succ_mul,Nat.succ_mul,show i * z + z + (j * z - i * z) = j * z + z by omega]
theorem impl_Slab_25.clr {P : Program} (w : World) (t e ty : TypeId) (z : Value) (ht : P.underlying t = some (.slice e)) (hv : ∀ w, (zeroValue e).run P w = .ok z w) (b o n c : Nat) (hn : 0 < n) (Z : List Value) (hZ : (Builtin.zeroCells z.cells n).toList = Z)
  (hc : ∀ j,j < Z.length → (w.cell? ⟨b,o + j,none⟩).isSome = true) (hf : ∀ j,j < Z.length → w.frozen? ⟨b,o + j,none⟩ = false) (h1 : ∀ v ∈ Z,v.oneCell' = true) :
  (Builtin.clear_ #[t] ty #[.slice (some ⟨b,o,none⟩) n c]).run P w = .ok (.tuple #[]) (w.setCells b o Z):=by
 have hst:=run_storeCells_cells (P:=P) b o Z 0 w (by simpa using hc) (by simpa using hf) h1;simp only [Nat.add_zero] at hst;obtain ⟨m,rfl⟩ : ∃ m,n = m + 1:=⟨n - 1,by omega⟩
 simp [Builtin.clear_,run_underlying ht,hv,hZ,hst]
theorem impl_Slab_25.zc (a b c d : Value) (ha : a.oneCell' = true) (hb : b.oneCell' = true) (hc : c.oneCell' = true) (hd : d.oneCell' = true) (n : Nat) : (Builtin.zeroCells #[a, b, c, d] n).toList.length = n * 4 ∧ ∀ v ∈ (Builtin.zeroCells #[a, b, c, d] n).toList, v.oneCell' = true := by
 refine ⟨by simp [Builtin.zeroCells],fun v hv=>?_⟩
 simp [Builtin.zeroCells] at hv
 obtain ⟨i,-,rfl⟩:=hv;have h : i % 4 = 0 ∨ i % 4 = 1 ∨ i % 4 = 2 ∨ i % 4 = 3:=by omega
 rcases h with h|h|h|h <;> rw [h] <;> first|exact ha|exact hb|exact hc|exact hd
set_option maxHeartbeats 8000000 in
set_option maxRecDepth 100000 in
theorem impl_Slab_25.walk (g n cap i j : Nat) (w : World) (cur : Array Value) (hh : w.heap[g]? = some (.cells cur 31 (0, 0))) (hn : n ≤ cap) (hm : cap ≤ 9223372036854775807) (hsz : cur.size = cap * 4) (hij : i < j) (hj : j ≤ n) (hone : ∀ u ∈ cur.toList.take (n * 4), u.oneCell' = true) :
  Calls Try.prog 25 #[.slice (some ⟨g,0,none⟩) n cap,.int .i64 i,.int .i64 j] w fun e w'=>e = .returned (.slice (some ⟨g,0,none⟩) (i + (n - j)) cap) ∧ ∃ Z : List Value,Z.length = (j - i) * 4 ∧ w' = (w.drew.setCells g (0 + i * 4) ((cur.toList.take (n * 4)).drop (j * 4))).setCells g ((i + (n - j)) * 4) Z:=by
 have hic : i≤cap:=by omega
 have hjc : j≤cap:=by omega
 have hin : i≤n:=by omega
 have hij' : i≤j:=by omega
 have hne : ¬ i = j:=by omega
 obtain ⟨news,hnews⟩ : ∃ news,news = (cur.toList.take (n * 4)).drop (j * 4):=⟨_,rfl⟩
 have hlen : news.length = (n - j) * 4:=by
  rw [hnews,List.length_drop,List.length_take,Array.length_toList,hsz]
  omega
 have hcell : ∀ t,t < cap * 4 → (w.drew.cell? ⟨g,t,none⟩).isSome = true ∧ w.drew.frozen? ⟨g,t,none⟩ = false:=by
  intro t ht;refine ⟨?_,kF_ hh t⟩
  show (w.cell? _).isSome = true
  rw [kC_ hh]
  simp [hsz,ht]
 have hget : ∀ t u,news[t]? = some u → w.drew.cell? ⟨g,j * 4 + t,none⟩ = some u:=by
  intro t u hu
  show w.cell? _ = _
  rw [kC_ hh,← hu,hnews,List.getElem?_drop];have ht : t < (n - j) * 4:=by
   rw [← hlen];exact (List.getElem?_eq_some_iff.1 hu).1
  rw [List.getElem?_take_of_lt (by omega),Array.getElem?_toList]
 obtain ⟨A,hA,hsrc⟩ : ∃ A : Addr,(if cap = j then some (⟨g,0,none⟩ : Addr) else some ⟨g,j * 4,none⟩) = some A ∧ Hid (∀ t u,news[t]? = some u → w.drew.cell? (A.add t) = some u):=by
  by_cases h : cap = j
  ·
   refine ⟨⟨g,0,none⟩,by simp [h],fun t u hu=>?_⟩;have h0 : news.length = 0:=by rw [hlen];omega
   rw [List.length_eq_zero_iff.1 h0] at hu
   simp at hu
  ·
   refine ⟨⟨g,j * 4,none⟩,by simp [h],fun t u hu=>?_⟩;rw [Addr.add_lit];exact hget t u hu
 have s1 : Hid (news.length = (n - j) * 4):=hlen;have s2 : Hid (∀ u ∈ news,u.oneCell' = true):=by
  intro u hu;rw [hnews] at hu;exact hone u (List.mem_of_mem_drop hu)
 have s3 : Hid (∀ t,t < news.length → (w.drew.cell? ⟨g,0 + i * 4 + t,none⟩).isSome = true ∧ w.drew.frozen? ⟨g,0 + i * 4 + t,none⟩ = false):=by
  intro t ht;rw [hlen] at ht;exact hcell _ (by omega)
 obtain ⟨W1,hW1⟩ : ∃ W1,W1 = w.drew.setCells g (0 + i * 4) news:=⟨_,rfl⟩
 have hblk : W1.heap[g]? = some (.cells (impl_Slab_25.setA cur (0 + i * 4) news) 31 (0,0)):=by
  rw [hW1];exact impl_Slab_25.blk news _ _ _ _ _ hh
 obtain ⟨Z,hZ⟩ : ∃ Z,(Builtin.zeroCells (Value.agg #[.int .i8 0,.int .i8 0,.int .i8 0,.int .i8 0]).cells (n - (i + (n - j)))).toList = Z:=⟨_,rfl⟩
 have hzl : Z.length = (n - (i + (n - j))) * 4 ∧ ∀ v ∈ Z,v.oneCell' = true:=by
  rw [← hZ];exact impl_Slab_25.zc _ _ _ _ rfl rfl rfl rfl _
 have hcl : ∀ ty,(Builtin.clear_ #[27] ty #[.slice (some ⟨g,(i + (n - j)) * 4,none⟩) (n - (i + (n - j))) (cap - (i + (n - j)))]).run Try.prog W1 = .ok (.tuple #[]) (W1.setCells g ((i + (n - j)) * 4) Z):=fun ty =>
  impl_Slab_25.clr W1 27 31 ty _ Try.underlying27 Try.zeroValue31 g _ _ _ (by omega) Z hZ (fun t ht=>by
   rw [kC_ hblk];have h1:=impl_Slab_25.setA_size news (0 + i * 4) cur;rw [hzl.1] at ht;rw [Array.getElem?_eq_getElem (by rw [h1,hsz];omega)]
   rfl) (fun t _=>kF_ hblk _) hzl.2
 have hW : Hid (W1 = w.drew.setCells g (0 + i * 4) news):=hW1;have X : Hid (W1.setCells g ((i + (n - j)) * 4) Z = (w.drew.setCells g (0 + i * 4) ((cur.toList.take (n * 4)).drop (j * 4))).setCells g ((i + (n - j)) * 4) Z ∧ Z.length = (j - i) * 4):=⟨by rw [hW1,hnews],by rw [hzl.1,show n - (i + (n - j)) = j - i by omega]⟩
 obtain ⟨i0,hi0,hz0,hz1,hz2⟩:=info_parts info31;clear hW1 hblk hget hcell hnews hlen hzl hZ hh hone hsz
 go_enter Try.func25,Try.ntmps25
 go_wp2_with fail
 go_region_law (refine step_append_room rfl (.tmp 22) (.tmp 25) 27 rfl 31 i0 4 Try.underlying27 hi0 hz1 g 0 i cap (by simp [Act.eval,Act.put]) A (n - j) (cap - j) news (by simp [Act.eval,Act.put,hA]) s1.out hsrc.out s2.out (by omega) s3.out ?_;rw [← hW.out])
 go_wp2
 go_ret
 exact ⟨rfl,Z,X.out.2,X.out.1⟩
set_option maxHeartbeats 8000000 in
set_option maxRecDepth 100000 in
theorem impl_Slab_25.calls (P0_ : Nat → Prop) (u9000_ : Value) (l0 : List S31) (a1 a2 : Int) (r : List S31) (w0 w : World) (hB : Below w0.heap.size w0 w) (ho0 : Kd.R k31 31 w w0.heap.size P0_ u9000_ l0) (h : impl_Slab_25.f l0 a1 a2 = some r) :
  Calls Try.prog 25 #[u9000_,.int .i64 a1,.int .i64 a2] w fun e w'=>∃ v0_ : Value,e = .returned (v0_) ∧ Kd.R k31 31 w' w0.heap.size (fun k_=>(P0_ k_ ∨ w.heap.size≤k_)) v0_ r ∧ Below w0.heap.size w0 w' ∧ Kept w w' (fun k_=>P0_ k_):=by
 unfold impl_Slab_25.f at h
 by_cases c : 0≤a1 ∧ a2 = a1 + 1 ∧ a2≤l0.length
 ·
  rw [if_pos c] at h;obtain rfl:=Option.some.inj h;clear h;obtain ⟨c0,c1,c2⟩:=c;obtain ⟨i,rfl⟩:=Int.eq_ofNat_of_zero_le c0;obtain rfl : a2 = ((i + 1 : Nat) : Int):=by omega
  have hi : i < l0.length:=by omega
  rw [Int.toNat_natCast];obtain ⟨hok,inner,⟨hlen,hr⟩,hreps⟩:=ho0
  rcases hr with ⟨hv,h0⟩|⟨g,cap,cur,hv,hb,hh,hn,hcap,hsz,htk⟩
  · exact absurd h0 (by omega)
  ·
   subst hv;have hg : P0_ g:=hok g (by simp [Value.ownBlock]);obtain ⟨enc,henc⟩ : ∃ enc : S31 → List Value,enc = fun x=>[.int .i8 x.f0,.int .i8 x.f1,.int .i8 x.f2,.int .i8 x.f3]:=⟨_,rfl⟩
   have hk : ∀ x,(enc x).length = 4:=fun x=>by rw [henc];rfl
   have hlen' : inner.length = l0.length * 4:=hlen;have hsz' : cur.size = cap * 4:=hsz;have htk' : cur.toList.take (l0.length * 4) = inner:=htk;have hi' : ∀ j p,l0[j]? = some p → (inner.drop (j * 4)).take 4 = enc p:=fun j p hp=>by rw [henc];exact k31_openM (hreps.2 j p hp)
   have hone : ∀ u ∈ cur.toList.take (l0.length * 4),u.oneCell' = true:=by
    rw [htk'];intro u hu;obtain ⟨t,ht,rfl⟩:=List.getElem_of_mem hu;have h1 : t / 4 < l0.length:=by omega
    have h2:=hi' (t / 4) _ (List.getElem?_eq_getElem h1);have h3 : inner[t] ∈ (inner.drop (t / 4 * 4)).take 4:=by
     rw [List.mem_iff_getElem?];refine ⟨t % 4,?_⟩;rw [List.getElem?_take_of_lt (by omega),List.getElem?_drop,show t / 4 * 4 + t % 4 = t by omega,List.getElem?_eq_getElem ht]
    rw [h2,henc] at h3;simp only [List.mem_cons,List.not_mem_nil,or_false] at h3
    rcases h3 with h3|h3|h3|h3 <;> rw [h3] <;> rfl
   obtain ⟨r1,r2⟩:=impl_Slab_25.reps enc 4 hk l0 inner hlen' hi' i hi;refine (impl_Slab_25.walk g l0.length cap i (i + 1) w cur hh hn (by have:=hcap;simp only [maxLen] at this;omega) hsz' (by omega) (by omega) hone).mono ?_;rintro e w' ⟨rfl,Z,hZ,rfl⟩;rw [htk'];have hnl : (inner.drop ((i + 1) * 4)).length = (l0.length - (i + 1)) * 4:=by rw [List.length_drop,hlen'];omega
   generalize hN : inner.drop ((i + 1) * 4) = news at *;have hel : (l0.eraseIdx i).length = i + (l0.length - (i + 1)):=by rw [List.length_eraseIdx,if_pos hi];omega
   have b1:=impl_Slab_25.blk news (0 + i * 4) w.drew g cur 31 hh;have b2:=impl_Slab_25.blk Z ((i + (l0.length - (i + 1))) * 4) _ g _ 31 b1;obtain ⟨k1,k2,k3,k4⟩:=impl_Slab_25.kept news (0 + i * 4) w.drew g;obtain ⟨m1,m2,m3,m4⟩:=impl_Slab_25.kept Z ((i + (l0.length - (i + 1))) * 4) (w.drew.setCells g (0 + i * 4) news) g;have far : ∀ k,g ≠ k → ((w.drew.setCells g (0 + i * 4) news).setCells g ((i + (l0.length - (i + 1))) * 4) Z).heap[k]? = w.heap[k]?:=fun k hk_=>(impl_Slab_25.far Z _ _ g k hk_).trans (impl_Slab_25.far news _ _ g k hk_)
   have hz : ((w.drew.setCells g (0 + i * 4) news).setCells g ((i + (l0.length - (i + 1))) * 4) Z).heap.size = w.heap.size:=m1.trans k1;have s1:=impl_Slab_25.setA_size news (0 + i * 4) cur;have s2:=impl_Slab_25.setA_size Z ((i + (l0.length - (i + 1))) * 4) (impl_Slab_25.setA cur (0 + i * 4) news);have g1:=fun t=>impl_Slab_25.setA_get news (0 + i * 4) cur t (by omega)
   have g2:=fun t=>impl_Slab_25.setA_get Z ((i + (l0.length - (i + 1))) * 4) (impl_Slab_25.setA cur (0 + i * 4) news) t (by omega)
   refine ⟨_,rfl,⟨fun k_ hk_=>.inl (hok k_ hk_),inner.take (i * 4) ++ news,⟨r1,.inr ⟨g,cap,_,by rw [hel],hb,b2,by omega,hcap,by show _ = cap * 4;rw [s2,s1,hsz'],?_⟩⟩,r1,fun j p hp=>?_⟩,⟨m2.trans (k2.trans hB.os),m3.trans (k3.trans hB.tape),m4.trans (k4.trans hB.output),by rw [hz];exact hB.size,fun k hk_=>by rw [far k (by omega)];exact hB.block k hk_⟩,by rw [hz];exact Nat.le_refl _,fun k hk_ hne=>far k (fun e_=>hne (by rw [← e_];exact hg))⟩
   ·
    show List.take ((l0.eraseIdx i).length * 4) _ = _
    rw [hel]
    apply List.ext_getElem?
    intro t
    by_cases ht : t < (i + (l0.length - (i + 1))) * 4
    ·
     rw [List.getElem?_take_of_lt ht,Array.getElem?_toList,g2,if_neg (by omega),g1];have hti : (inner.take (i * 4)).length = i * 4:=by rw [List.length_take];omega
     by_cases h1 : t < i * 4
     · rw [if_neg (by omega),List.getElem?_append_left (by omega),List.getElem?_take_of_lt h1,← htk',List.getElem?_take_of_lt (by omega),Array.getElem?_toList]
     · rw [if_pos (by omega),List.getElem?_append_right (by omega),hti,Nat.zero_add]
    · rw [List.getElem?_eq_none (by rw [List.length_take];omega),List.getElem?_eq_none (by rw [r1,hel];omega)]
   ·
    have h1:=r2 j p hp;rw [henc] at h1
    show k31.M _ _ _ p (((inner.take (i * 4) ++ news).drop (j * 4)).take 4)
    rw [h1];exact k31_mkM _ _ _ _
 ·
  rw [if_neg c] at h
  cases h
end Go.Proofs.Ytgpfjmkmopjfbaa.Q
