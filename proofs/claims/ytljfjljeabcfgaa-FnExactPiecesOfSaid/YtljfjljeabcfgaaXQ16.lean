-- Trimmed by a program.
import Derived.Test.YtljfjljeabcfgaaXQ0
import Derived.Test.YtljfjljeabcfgaaXQ12
import Derived.Test.YtljfjljeabcfgaaXQ14
import Derived.Test.YtljfjljeabcfgaaXQ15
import Derived.Test.YtljfjljeabcfgaaXQPcA
namespace Go.Proofs.Ytljfjljeabcfgaa.Q
open RowKit YtljfjljeabcfgaaW.PrintWords YtljfjljeabcfgaaW.PrintLast YtljfjljeabcfgaaW.PrintMore
attribute [local go_sem] max2_int min2_int max_two min_two max_three min_three max_four min_four
set_option linter.unusedVariables false
set_option linter.unusedSimpArgs false
def Pc.tab (k : Nat) (a0 a1 : Int) (l : List S50) : List (List Int) := (List.range l.length).map fun i => (impl_Square_beside.f k a0 a1 l ((i : Nat) : Int)).getD []
def Pc.told (k : Nat) (a0 a1 : Int) (l : List S50) : Bool := (List.range l.length).all fun i => (impl_Square_beside.f k a0 a1 l ((i : Nat) : Int)).isSome
def impl_PiecesOf.f (k : Nat) (a0 a1 : Int) (l : List S50) : Option (List (List Int) × Int) :=
 (impl_ValidSquare.f k a0 a1 l).bind fun b=>if b = true then (if Pc.told k a0 a1 l = true ∧ Pc.fits l.length (Pc.tab k a0 a1 l) then some ((Pc.outer (Pc.tab k a0 a1 l) l.length).2,0) else none) else some ([],1)
theorem Pc.told_at {k : Nat} {a0 a1 : Int} {l : List S50} (h : Pc.told k a0 a1 l = true) {i : Nat} (hi : i < l.length) : ∃ r, impl_Square_beside.f k a0 a1 l ((i : Nat) : Int) = some r :=
 Option.isSome_iff_exists.1 (List.all_eq_true.1 h i (List.mem_range.2 hi))
theorem Pc.tab_mono {k : Nat} {a0 a1 : Int} {l : List S50} (h : Pc.told k a0 a1 l = true) : Pc.tab (k + 1) a0 a1 l = Pc.tab k a0 a1 l ∧ Pc.told (k + 1) a0 a1 l = true := by
 have key : ∀ i ∈ List.range l.length,impl_Square_beside.f (k + 1) a0 a1 l ((i : Nat) : Int) = impl_Square_beside.f k a0 a1 l ((i : Nat) : Int):=fun i hi=>by
  obtain ⟨r,hr⟩:=Pc.told_at h (List.mem_range.1 hi);rw [hr,impl_Square_beside.mono _ _ _ _ _ r hr]
 refine ⟨List.map_congr_left fun i hi=>by rw [key i hi],List.all_eq_true.2 fun i hi=>?_⟩;rw [key i hi];exact List.all_eq_true.1 h i hi
theorem Pc.tab_row {k : Nat} {a0 a1 : Int} {l : List S50} (h : Pc.told k a0 a1 l = true) {x : Int} (hx : 0 ≤ x ∧ x < (l.length : Int)) : impl_Square_beside.f k a0 a1 l x = some (Pc.rowOf (Pc.tab k a0 a1 l) x) := by
 obtain ⟨r,hr⟩:=Pc.told_at h (i:=x.toNat) (by omega);rw [show ((x.toNat : Nat) : Int) = x by omega] at hr;rw [hr]
 unfold Pc.rowOf Pc.tab
 rw [List.getD_eq_getElem?_getD,List.getElem?_map,List.getElem?_range (by omega),Option.map_some,Option.getD_some,show ((x.toNat : Nat) : Int) = x by omega,hr]
 rfl
theorem impl_PiecesOf.mono : ∀ a0 a1 a2 k, LeO (impl_PiecesOf.f k a0 a1 a2) (impl_PiecesOf.f (k + 1) a0 a1 a2) := by
 intro a0 a1 a2 k
 unfold impl_PiecesOf.f
 refine LeO.bind (impl_ValidSquare.mono _ _ _ _) (fun b=>LeO.ite ?_ (LeO.refl _));intro r h
 by_cases c : Pc.told k a0 a1 a2 = true ∧ Pc.fits a2.length (Pc.tab k a0 a1 a2)
 · rw [if_pos c] at h;obtain ⟨e1,e2⟩:=Pc.tab_mono c.1;rw [e1,if_pos ⟨e2,c.2⟩];exact h
 ·
  rw [if_neg c] at h
  cases h
theorem Pc.size18 (A : Option Addr) (n c : Nat) (w : World) : Calls Try.prog 18 #[.slice A n c] w fun e w' => e = .returned (.int .i64 n) ∧ w' = w := by
 go_enter Try.func18,Try.ntmps18
 go_wp2
 go_ret
 exact ⟨rfl,rfl⟩
theorem Pc.int_eq (k : IntKind) (a : Int) : intOf (.int k a) = a := rfl
theorem Pc.less {N x : Nat} {V V' : Value} (h : intOf V = ((x + 1 : Nat) : Int)) (h' : intOf V' = ((x : Nat) : Int)) (hl : x < N) : N - (intOf V).toNat < N - (intOf V').toNat := by
 rw [h,h']
 omega
theorem Pc.bfs_go {T : List (List Int)} {kk : Nat} {st : Pc.St} {F : Pc.St} (h : Pc.bfs T (61 - kk) st kk = F) (hk : kk < st.2.length) (h60 : kk < 61) : Pc.bfs T (61 - (kk + 1)) (Pc.rowS (Pc.rowOf T (rd st.2 (kk : Int))) st (Pc.rowOf T (rd st.2 (kk : Int))).length) (kk + 1) = F := by
 rw [show 61 - kk = (61 - (kk + 1)) + 1 by omega,Pc.bfs,if_pos hk] at h;exact h
theorem Pc.bfs_end {T : List (List Int)} {d kk : Nat} {st : Pc.St} {F : Pc.St} (h : Pc.bfs T d st kk = F) (hk : ¬ kk < st.2.length) : st = F := by
 cases d with
 | zero=>exact h
 | succ d=>rw [Pc.bfs,if_neg hk] at h;exact h
theorem Pc.outer_len (T : List (List Int)) : ∀ i, (Pc.outer T i).2.length ≤ i
 | 0=>Nat.le_refl _
 | i + 1=>by
  have:=Pc.outer_len T i
  unfold Pc.outer
  split
  · omega
  · rw [List.length_append,List.length_singleton];omega
set_option maxRecDepth 100000 in
set_option maxHeartbeats 8000000 in
theorem impl_PiecesOf.calls (k : Nat) (a0_0 : Int) (a0_1 : Int) (A0_2 : Option Addr) (c0_2 : Nat) (l0_2 : List (S50)) (r1 : List (List Int)) (r2 : Int) (w : World) (hr0_2 : Kd.C k50 w A0_2 l0_2.length l0_2) (hc0_2 : l0_2.length ≤ c0_2) (h : impl_PiecesOf.f k a0_0 a0_1 l0_2 = some (r1, r2)) :
  Calls Try.prog 7 #[.agg #[.int .i8 a0_0,.int .i8 a0_1,.slice A0_2 l0_2.length c0_2]] w fun e w'=>∃ v0_ : Value,e = .returned (.tuple #[v0_,.int .i64 r2]) ∧ Kd.S (Kd.slice 2 (Kd.int .i64)) 43 w' w.heap.size (fun _=>True) v0_ r1 ∧ Below w.heap.size w w':=by
 have hu32:=Try.underlying32;have hu50:=Try.underlying50;have HR0_2:=am_ hr0_2;have HC0_2:=am_ hc0_2;clear hr0_2 hc0_2;have HB:=am_ (Below.refl w.heap.size w)
 unfold impl_PiecesOf.f at h
 replace h:=Option.bind_eq_some_iff.mp h;obtain ⟨b,hv,h⟩:=h;have A2:=am_ hv;clear hv
 by_cases c : b = true
 ·
  subst c;rw [if_pos rfl] at h
  by_cases hok : Pc.told k a0_0 a0_1 l0_2 = true ∧ Pc.fits l0_2.length (Pc.tab k a0_0 a0_1 l0_2)
  ·
   rw [if_pos hok] at h;obtain ⟨rfl,rfl⟩ : _ = r1 ∧ 0 = r2:=by simpa using h
   clear h;have HBS:=am_ (fun (x : Int) (hx : 0≤x ∧ x < (l0_2.length : Int))=>Pc.tab_row hok.1 hx);have HF:=am_ hok.2;clear hok;generalize Pc.tab k a0_0 a0_1 l0_2 = T at *
   go_enter Try.func7,Try.ntmps7
   go_wp2_with (first|((with_reducible refine gate_dst (N:=1) rfl ?_);refine box_event ?hg (N:=1) ?hd (cs:=#[.int .i8 a0_0,.int .i8 a0_1,.slice A0_2 l0_2.length c0_2]) (t:=32) ?hr ?_;(case hd=>rfl);(case hg=>rfl);(case hr=>first|(go_simp;done)|(go_simp;rfl));intro gb hg wb hbox hb;have GEb:=am_ (show w.heap.size≤gb by rw [hg];exact Nat.le_refl _);have BK:=am_ hbox;have HB':=am_ (bT_ HB.out hb);clear HB;have HB:=HB';clear HB';have hq0 : wb.cell? ⟨gb,0,none⟩ = some (.int .i8 a0_0):=(kC_ BK.out 0).trans rfl;have hq1 : wb.cell? ⟨gb,1,none⟩ = some (.int .i8 a0_1):=(kC_ BK.out 1).trans rfl;have hq2 : wb.cell? ⟨gb,2,none⟩ = some (.slice A0_2 l0_2.length c0_2):=(kC_ BK.out 2).trans rfl;clear hb hbox hg)|((with_reducible refine gate_callee (f:=17) rfl ?_);refine goesL_ (some 12) rfl rfl Try.func17 (by kernel_rfl) rfl #[.agg #[.int .i8 a0_0,.int .i8 a0_1,.slice A0_2 l0_2.length c0_2]] rfl (by (try simp only [List.map_toArray,List.map_cons,List.map_nil]);first|done|rfl) ?_;(with_reducible refine (impl_ValidSquare.calls k a0_0 a0_1 A0_2 c0_2 l0_2 true _ ?side1 HC0_2.out A2.out).mono ?_);(case side1=>exact cB_ HR0_2.out HB.out);rintro e w5 ⟨rfl,hb⟩;refine ⟨_,rfl,?_⟩;clear hq0 hq1 hq2;have BK':=am_ (kB_ BK.out hb);have HB':=am_ (bT_ HB.out hb);clear BK HB;have BK:=BK';have HB:=HB';clear BK' HB';have hq0 : w5.cell? ⟨gb,0,none⟩ = some (.int .i8 a0_0):=(kC_ BK.out 0).trans rfl;have hq1 : w5.cell? ⟨gb,1,none⟩ = some (.int .i8 a0_1):=(kC_ BK.out 1).trans rfl;have hq2 : w5.cell? ⟨gb,2,none⟩ = some (.slice A0_2 l0_2.length c0_2):=(kC_ BK.out 2).trans rfl;clear hb)|((with_reducible refine gate_dst (N:=14) rfl ?_);refine Kd.S_lit (Kd.slice 2 (Kd.int .i64)) _ 43 ?hg (N:=14) ?hd (xs:=([] : List (List Int))) (inner:=[]) (ok:=fun _=>True) (okp:=fun _=>True) ?hr ?hp (fun _ hk=>hk) trivial (Below.refl _ _) (Nat.le_refl _) (by simp) ?_;(case hd=>rfl);(case hg=>rfl);(case hr=>first|(go_simp;done)|(go_simp;rfl));(case hp=>exact (Reps.none _ _));intro v14 w14 ho hb hg_ hnew_;clear hg_ hnew_;(try simp only [Int.reduceToNat] at ho);clear hq0 hq1 hq2;have HO:=am_ (Kd.S_lower ho (bZ_ HB.out));have BK':=am_ (kB_ BK.out hb);have HB':=am_ (bT_ HB.out hb);clear BK HB;have BK:=BK';have HB:=HB';clear BK' HB';have hq0 : w14.cell? ⟨gb,0,none⟩ = some (.int .i8 a0_0):=(kC_ BK.out 0).trans rfl;have hq1 : w14.cell? ⟨gb,1,none⟩ = some (.int .i8 a0_1):=(kC_ BK.out 1).trans rfl;have hq2 : w14.cell? ⟨gb,2,none⟩ = some (.slice A0_2 l0_2.length c0_2):=(kC_ BK.out 2).trans rfl;clear hb ho)|((with_reducible refine gate_dst (N:=15) rfl ?_);refine Pc.make_event ?hg (N:=15) ?hd (t:=47) (k:=2) (e:=4) ?ho Try.underlying47 ?_;(case hd=>rfl);(case hg=>rfl);(case ho=>rfl);intro m wm hm hmm hb;clear hq0 hq1 hq2;have GEm:=am_ (show w.heap.size≤m by rw [hm];exact bZ_ HB.out);have NEb:=am_ (show some gb ≠ some m by rw [hm];intro e_;have h1:=kL_ BK.out;have h2:=Option.some.inj e_;omega);have MI:=am_ (Pc.of_empty hmm);have HO':=am_ (Kd.S_below HO.out hb);have BK':=am_ (kB_ BK.out hb);have HB':=am_ (bT_ HB.out hb);clear HO BK HB;have HO:=HO';have BK:=BK';have HB:=HB';clear HO' BK' HB';have hq0 : wm.cell? ⟨gb,0,none⟩ = some (.int .i8 a0_0):=(kC_ BK.out 0).trans rfl;have hq1 : wm.cell? ⟨gb,1,none⟩ = some (.int .i8 a0_1):=(kC_ BK.out 1).trans rfl;have hq2 : wm.cell? ⟨gb,2,none⟩ = some (.slice A0_2 l0_2.length c0_2):=(kC_ BK.out 2).trans rfl;clear hb hm hmm)|(go_at_call 18;refine (Pc.size18 _ _ _ _).mono ?_;rintro e w' ⟨rfl,rfl⟩))
   clear hq0 hq1 hq2
   go_loopw [4,19] (fun v4 v19 wr=>∃ (i N : Nat),v19 = .int .i64 i ∧ i≤l0_2.length ∧ Aside0 (Kd.S (Kd.slice 2 (Kd.int .i64)) 43 wr w.heap.size (fun _=>True) v4 (Pc.outer T i).2) ∧ Aside0 (Pc.Is wr m N (Pc.outer T i).1) ∧ Aside0 (wr.heap[gb]? = some (.cells #[.int .i8 a0_0,.int .i8 a0_1,.slice A0_2 l0_2.length c0_2] 32 (0,0))) ∧ Aside0 (Below w.heap.size w wr)) (fun v4 v19 _=>l0_2.length - (intOf v19).toNat)
   case atStart=>exact ⟨0,0,rfl,Nat.zero_le _,HO,MI,BK,HB⟩
   case round =>
    clear HO MI BK HB;obtain ⟨i,N,rfl,hi,HO,MI,BK,HB⟩:=hrel;have h60:=HF.out.2.1
    by_cases hlt : i < l0_2.length
    ·
     have p1 : ((i : Int) < (l0_2.length : Int)) = True:=eq_true (by omega);have p1n : (i < l0_2.length) = True:=eq_true hlt;have HG:=am_ (show Pc.G (i : Int) from ⟨by omega,by omega⟩);have hwi : wrap64 ((i : Int) + 1) = ((i + 1 : Nat) : Int):=by unfold wrap64;omega
     have HOL:=am_ (Nat.le_trans (Pc.outer_len T i) (Nat.le_trans hi h60))
     by_cases hM : (Pc.outer T i).1 (i : Int) = true
     ·
      have HM:=am_ hM;clear hM
      go_wp2_with (first|((with_reducible refine gate_dst (N:=24) rfl ?_);refine Pc.look_event ?hg (N:=24) ?hd (x:=.tmp 22) (y:=.tmp 23) ?ho (b:=m) MI.out (p:=(i : Int)) HG.out (v:=true) ?hx ?hy HM.out ?_;(case hd=>rfl);(case hg=>rfl);(case ho=>rfl);(case hx=>first|(go_simp;done)|rfl);(case hy=>first|(go_simp;done)|rfl)))
      go_round
      case measure=>first|(exact Pc.less (V:=.int .i64 (wrap64 ((i : Int) + 1))) (V':=.int .i64 (i : Int)) ((Pc.int_eq _ _).trans hwi) (Pc.int_eq _ _) hlt)|(simp only [intOf];simp [hwi];omega)
      case rel =>
       have e_ : Pc.outer T (i + 1) = Pc.outer T i:=by rw [Pc.outer,if_pos HM.out]
       refine ⟨i + 1,N,by first|rfl|simp [hwi]|(simp;omega),hlt,?_,?_,BK,HB⟩
       · rw [e_];exact HO
       · rw [e_];exact MI
     ·
      have HMN:=am_ hM;have HM:=am_ (show (Pc.outer T i).1 (i : Int) = false by simpa using hM);clear hM;obtain ⟨A4,c4,e4_⟩:=Kd.S_slice HO.out;subst e4_;obtain ⟨F,hF⟩ : ∃ F,Pc.bfs T 61 (Pc.start (Pc.outer T i).1 i) 0 = F:=⟨_,rfl⟩
      have HFF:=am_ hF;clear hF
      go_wp2_with (first|((with_reducible refine gate_dst (N:=24) rfl ?_);refine Pc.look_event ?hg (N:=24) ?hd (x:=.tmp 22) (y:=.tmp 23) ?ho (b:=m) MI.out (p:=(i : Int)) HG.out (v:=false) ?hx ?hy HM.out ?_;(case hd=>rfl);(case hg=>rfl);(case ho=>rfl);(case hx=>first|(go_simp;done)|rfl);(case hy=>first|(go_simp;done)|rfl))|((with_reducible refine gate_ (.mapUpdate 47 (.tmp 25) (.tmp 26) (.const (.bool true))) rfl ?_);refine Pc.update_event ?hg ?hn (x:=.tmp 25) (y:=.tmp 26) (z:=.const (.bool true)) ?ho (b:=m) MI.out (p:=(i : Int)) HG.out (v:=true) ?hx ?hy ?hz ?_;(case hg=>rfl);(case hn=>rfl);(case ho=>rfl);(case hx=>first|(go_simp;done)|rfl);(case hy=>first|(go_simp;done)|rfl);(case hz=>first|(go_simp;done)|rfl);intro w8 hi hgr;have HO':=am_ (Pc.rows_grown HO.out MI.out hgr);have BK':=am_ (blk_grown BK.out hgr NEb.out);have HB':=am_ (Pc.below_grown HB.out hgr (bZ_ HB.out) GEm.out);clear HO BK HB;have HO:=HO';have BK:=BK';have HB:=HB';clear HO' BK' HB';clear MI;have MI:=am_ hi;clear hi hgr)|((with_reducible refine gate_dst (N:=28) rfl ?_);refine Kd.R_lit (Kd.int .i64) _ 2 ?hg (N:=28) ?hd (xs:=([(i : Int)] : List Int)) (inner:=[.int .i64 (i : Int)]) (ok:=fun _=>True) (okp:=fun _=>True) ?hr ?hp (fun _ hk=>hk) trivial (Below.refl _ _) (Nat.le_refl _) (by simp) ?_;(case hd=>rfl);(case hg=>rfl);(case hr=>first|(go_simp;done)|(go_simp;rfl));(case hp=>exact (Reps.one (show Kd.M (Kd.int .i64) _ _ _ (i : Int) [.int .i64 (i : Int)] from rfl) (Reps.none _ _)));intro v28 w28 ho hb hg_ hnew_;clear hg_ hnew_;have HP:=am_ (Kd.R_lower ho (bZ_ HB.out));have HO':=am_ (Kd.S_mono (ok':=fun k_=>some k_ ≠ (v28 : Value).ownBlock) (Kd.S_elder' HO.out (Kd.R_base ho) hb) (fun _ h_=>h_.2));have MI':=am_ (Pc.is_below MI.out hb);have BK':=am_ (kB_ BK.out hb);have HB':=am_ (bT_ HB.out hb);clear HO MI BK HB;have HO:=HO';have MI:=MI';have BK:=BK';have HB:=HB';clear HO' MI' BK' HB';clear hb ho))
      go_loopw [7,8] (fun v7 v8 wq=>∃ (kk N : Nat) (st : Pc.St),v8 = .int .i64 kk ∧ kk≤60 ∧ Pc.Inv l0_2.length st ∧ Aside0 (Pc.bfs T (61 - kk) st kk = F) ∧ Aside0 (Kd.R (Kd.int .i64) 2 wq w.heap.size (fun _=>True) v7 st.2) ∧ Aside0 (Pc.Is wq m N st.1) ∧ Aside0 (Kd.S (Kd.slice 2 (Kd.int .i64)) 43 wq w.heap.size (fun k_=>some k_ ≠ (v7 : Value).ownBlock) (.slice A4 (Pc.outer T i).2.length c4) (Pc.outer T i).2) ∧ Aside0 (wq.heap[gb]? = some (.cells #[.int .i8 a0_0,.int .i8 a0_1,.slice A0_2 l0_2.length c0_2] 32 (0,0))) ∧ Aside0 (Below w.heap.size w wq)) (fun v7 v8 _=>61 - (intOf v8).toNat)
      case atStart=>exact ⟨0,_,Pc.start (Pc.outer T i).1 i,rfl,Nat.zero_le _,Pc.inv_start _ hlt,HFF,HP,MI,HO,BK,HB⟩
      case round =>
       clear HO MI BK HB HP HM;obtain ⟨kk,N,st,rfl,hkk,hinv,HBF,HP,MI,HO,BK,HB⟩:=hrel;have hsl:=Pc.inv_len hinv;have HSL:=am_ (Nat.le_trans hsl h60);obtain ⟨A7,c7,e7_⟩:=Kd.R_slice HP.out;subst e7_
       by_cases hkl : kk < st.2.length
       ·
        have HKL:=am_ hkl;have q1 : ((kk : Int) < (st.2.length : Int)) = True:=eq_true (by omega);have q1n : (kk < st.2.length) = True:=eq_true hkl;have q0 : (0≤(kk : Int)) = True:=eq_true (by omega);obtain ⟨ad7,e7_,hx7⟩:=Kd.at_int (Kd.R_reads' HP.out).2.2 (kk : Int) (by omega) (by omega);subst e7_;rw [Int.toNat_natCast] at hx7;obtain ⟨xk,hxk⟩ : ∃ xk,rd st.2 (kk : Int) = xk:=⟨_,rfl⟩
        obtain ⟨row,hrow⟩ : ∃ row,Pc.rowOf T xk = row:=⟨_,rfl⟩
        have HXK:=am_ hxk;have HROW:=am_ hrow;have hxr : 0≤xk ∧ xk < (l0_2.length : Int):=by rw [← hxk];exact (hinv.2 _ (Pc.rd_mem hkl)).1
        have HBE:=am_ ((HBS.out xk hxr).trans (congrArg some hrow));have HRF:=am_ (show row.length≤60 ∧ ∀ x ∈ row,0≤x ∧ x < (l0_2.length : Int) by rw [← hrow];exact HF.out.2.2 _ (Pc.row_fits HF.out hxr));have HBF2:=am_ (Pc.bfs_go HBF.out hkl (by omega));have HINV:=am_ hinv;rw [hxk] at hx7;have HX:=am_ hx7;clear hx7 hxk hrow hinv hsl
        go_upto_region 13 with (fail)
        have MI':=am_ ((show Pc.Is wr.drew m N st.1 from MI.out));have HO':=am_ (Kd.S_drew HO.out);have HP':=am_ (Kd.R_drew HP.out);have BK':=am_ (kD_ BK.out);have HB':=am_ (bD_ HB.out);clear MI HO HP BK HB;have MI:=MI';have HO:=HO';have HP:=HP';have BK:=BK';have HB:=HB';clear MI' HO' HP' BK' HB';refine start_ (n:=8) (S:=fun w'=>w'.cell? ⟨gb,0,none⟩ = some (.int .i8 a0_0) ∧ w'.cell? ⟨gb,1,none⟩ = some (.int .i8 a0_1) ∧ w'.cell? ⟨gb,2,none⟩ = some (.slice A0_2 l0_2.length c0_2) ∧ w'.cell? (ad7.add kk) = some (.int .i64 xk)) (ds:=[]) (mB_ 8 0) (by kernel_rfl) rfl rfl ⟨(kC_ BK.out 0).trans rfl,(kC_ BK.out 1).trans rfl,(kC_ BK.out 2).trans rfl,HX.out⟩ (fun hHeld=>?_);generalize wr.drew = wd at MI HO HP BK HB hHeld ⊢;refine take_ (i:=0) (N:=some 35) (v:=?_) (a':=?_) (mB_ 8 1) rfl rfl (by kernel_rfl) (fun _ _ _ h=>h) (Or.inl ⟨by rfl,?_⟩) hHeld ?_ ?_;rotate_left;(· rintro w' ⟨s0,s1,s2,s3⟩;go_simp;with_reducible rfl);rotate_left;(· simp only [Act.put,z1_,z2_,z3_,i64_w,i32_w];rfl)
        refine pure_ (i:=1) (N:=some 36) (v:=?_) (a':=?_) (mB_ 8 3) rfl rfl (by kernel_rfl) (fun _ _ _ h=>h) (Or.inl ⟨by rfl,?_⟩) ?_ ?_;rotate_left;(· intro w';go_simp;with_reducible rfl);rotate_left;(· simp only [Act.put,z1_,z2_,z3_,i64_w,i32_w];rfl)
        refine pure_ (i:=2) (N:=some 37) (v:=?_) (a':=?_) (mB_ 8 7) rfl rfl (by kernel_rfl) (fun _ _ _ h=>h) (Or.inl ⟨by rfl,?_⟩) ?_ ?_;rotate_left;(· intro w';go_simp;with_reducible rfl);rotate_left;(· simp only [Act.put,z1_,z2_,z3_,i64_w,i32_w];rfl)
        refine pure_ (i:=3) (N:=some 38) (v:=?_) (a':=?_) (mB_ 8 15) rfl rfl (by kernel_rfl) (fun _ _ _ h=>h) (Or.inl ⟨by rfl,?_⟩) ?_ ?_;rotate_left;(· intro w';go_simp;with_reducible rfl);rotate_left;(· simp only [Act.put,z1_,z2_,z3_,i64_w,i32_w];rfl)
        refine take_ (i:=4) (N:=some 39) (v:=?_) (a':=?_) (mB_ 8 31) rfl rfl (by kernel_rfl) (fun _ _ _ h=>h) (Or.inl ⟨by rfl,?_⟩) hHeld ?_ ?_;rotate_left;(· rintro w' ⟨s0,s1,s2,s3⟩;go_simp;with_reducible rfl);rotate_left;(· simp only [Act.put,z1_,z2_,z3_,i64_w,i32_w];rfl)
        refine pure_ (i:=7) (N:=some 42) (v:=?_) (a':=?_) (mB_ 8 159) rfl rfl (by kernel_rfl) (fun _ _ _ h=>h) (Or.inl ⟨by rfl,?_⟩) ?_ ?_;rotate_left;(· intro w';go_simp;with_reducible rfl);rotate_left;(· simp only [Act.put,z1_,z2_,z3_,i64_w,i32_w];rfl)
        refine one_ (i:=5) (N:=some 40) (mB_ 8 191) rfl rfl (by kernel_rfl) (by decide) (fun K hK=>?_);refine goes_ Try.func19 (by kernel_rfl) rfl #[.agg #[.int .i8 a0_0,.int .i8 a0_1,.slice A0_2 l0_2.length c0_2],.int .i64 xk] (by rfl) rfl rfl (by (try simp only [List.map_toArray,List.map_cons,List.map_nil]);first|done|(go_simp;done)|rfl) ?_
        with_reducible refine (impl_Square_beside.calls k a0_0 a0_1 A0_2 c0_2 l0_2 xk row _ ?side1 HC0_2.out HBE.out).mono ?_
        case side1=>exact cB_ HR0_2.out HB.out
        rintro e w9 ⟨v40,rfl,ho,hb⟩;obtain ⟨A40,c40,e40_⟩:=Kd.R_slice ho;subst e40_;refine ⟨_,rfl,?_⟩;have HW0:=am_ (rM_ (ok':=fun k_=>some k_ ≠ (Value.slice (some ad7) st.2.length c7).ownBlock) (Kd.R_lower (Kd.R_new' ho (Kd.R_lt HP.out)) (bZ_ HB.out)) (fun _ h_=>h_.2));have HX':=am_ ((Kd.at_int (Kd.R_reads' (Kd.R_below HP.out hb)).2.2 (kk : Int) (Int.natCast_nonneg _) (by have:=HKL.out;omega)));obtain ⟨ad7',e7_,hx7_⟩:=HX'.out
        injection e7_ with e7_
        subst e7_;rw [Int.toNat_natCast,HXK.out] at hx7_;clear HX HX';have HX:=am_ hx7_;clear hx7_;have MI':=am_ (Pc.is_below MI.out hb);have HO':=am_ (Kd.S_below HO.out hb);have HP':=am_ (Kd.R_below HP.out hb);have BK':=am_ (kB_ BK.out hb);have HB':=am_ (bT_ HB.out hb);clear MI HO HP BK HB;have MI:=MI';have HO:=HO';have HP:=HP';have BK:=BK';have HB:=HB';clear MI' HO' HP' BK' HB';clear hb ho hHeld;refine hK.out _ _ ⟨(kC_ BK.out 0).trans rfl,(kC_ BK.out 1).trans rfl,(kC_ BK.out 2).trans rfl,HX.out⟩ (fun hHeld=>?_);clear hK K;refine norm_ (a':=?_) ?_ ?_;rotate_left
        · show Act.put _ (some 40) _ = _;simp only [Act.put,z1_,z2_,z3_,i64_w,i32_w];rfl
        refine pure_ (i:=6) (N:=some 41) (v:=?_) (a':=?_) (mB_ 8 255) rfl rfl (by kernel_rfl) (fun _ _ _ h=>h) (Or.inl ⟨by rfl,?_⟩) ?_ ?_;rotate_left;(· intro w';go_simp;with_reducible rfl);rotate_left;(· simp only [Act.put,z1_,z2_,z3_,i64_w,i32_w];rfl)
        refine done_ (by kernel_rfl) ?_;clear hHeld HX
        go_wp2
        go_loopw [7,42] (fun v7 v42 wz=>∃ (j N : Nat),v42 = .int .i64 j ∧ j≤row.length ∧ Aside0 (Kd.R (Kd.int .i64) 2 wz w.heap.size (fun _=>True) v7 (Pc.rowS row st j).2) ∧ Aside0 (Pc.Is wz m N (Pc.rowS row st j).1) ∧ Aside0 (Kd.S (Kd.slice 2 (Kd.int .i64)) 43 wz w.heap.size (fun k_=>some k_ ≠ (v7 : Value).ownBlock) (.slice A4 (Pc.outer T i).2.length c4) (Pc.outer T i).2) ∧ Aside0 (Kd.R (Kd.int .i64) 2 wz w.heap.size (fun k_=>some k_ ≠ (v7 : Value).ownBlock) (.slice A40 row.length c40) row) ∧ Aside0 (wz.heap[gb]? = some (.cells #[.int .i8 a0_0,.int .i8 a0_1,.slice A0_2 l0_2.length c0_2] 32 (0,0))) ∧ Aside0 (Below w.heap.size w wz)) (fun v7 v42 _=>row.length - (intOf v42).toNat)
        case atStart=>exact ⟨0,N,rfl,Nat.zero_le _,HP,MI,HO,HW0,BK,HB⟩
        case round =>
         clear HP MI HO HW0 BK HB;obtain ⟨j,N2,rfl,hj,HP,MI,HO,HW0,BK,HB⟩:=hrel
         by_cases hjl : j < row.length
         ·
          obtain ⟨ad40,e40_,hx40⟩:=Kd.at_int (Kd.R_reads' HW0.out).2.2 (j : Int) (by omega) (by omega);subst e40_;rw [Int.toNat_natCast] at hx40;obtain ⟨xj,hxj⟩ : ∃ xj,rd row (j : Int) = xj:=⟨_,rfl⟩
          have hxr2 : 0≤xj ∧ xj < (l0_2.length : Int):=by rw [← hxj];exact HRF.out.2 _ (Pc.rd_mem hjl)
          have HXJ:=am_ (show Pc.rowS row st (j + 1) = Pc.step (Pc.rowS row st j) xj by rw [Pc.rowS,hxj]);rw [hxj] at hx40;have HG2:=am_ (show Pc.G xj from ⟨by omega,by omega⟩);have HZL:=am_ (Nat.le_trans (Pc.inv_len (Pc.inv_row HINV.out HRF.out.2 j hj)) h60);have hr60:=HRF.out.1;have s1 : ((j : Int) < (row.length : Int)) = True:=eq_true (by omega);have s1n : (j < row.length) = True:=eq_true hjl;have s0 : (0≤(j : Int)) = True:=eq_true (by omega);have hwj : wrap64 ((j : Int) + 1) = ((j + 1 : Nat) : Int):=by unfold wrap64;omega
          obtain ⟨A7,c7,e7_⟩:=Kd.R_slice HP.out;subst e7_
          by_cases hM : (Pc.rowS row st j).1 xj = true
          ·
           have HM:=am_ hM;clear hM hxj
           go_wp2_with (first|((with_reducible refine gate_dst (N:=48) rfl ?_);refine Pc.look_event ?hg (N:=48) ?hd (x:=.tmp 46) (y:=.tmp 47) ?ho (b:=m) MI.out (p:=xj) HG2.out (v:=true) ?hx ?hy HM.out ?_;(case hd=>rfl);(case hg=>rfl);(case ho=>rfl);(case hx=>first|(go_simp;done)|rfl);(case hy=>first|(go_simp;done)|rfl)))
           go_round
           case measure=>first|(exact Pc.less (V:=.int .i64 (wrap64 ((j : Int) + 1))) (V':=.int .i64 (j : Int)) ((Pc.int_eq _ _).trans hwj) (Pc.int_eq _ _) hjl)|(simp only [intOf];simp [hwj];omega)
           case rel =>
            have e_ : Pc.rowS row st (j + 1) = Pc.rowS row st j:=by rw [HXJ.out,Pc.step,if_pos HM.out]
            refine ⟨j + 1,N2,by first|rfl|simp [hwj]|(simp;omega),hjl,?_,?_,HO,HW0,BK,HB⟩
            · rw [e_];exact HP
            · rw [e_];exact MI
          ·
           have HMN2:=am_ hM;have HM:=am_ (show (Pc.rowS row st j).1 xj = false by simpa using hM);clear hM hxj
           go_wp2_with (first|((with_reducible refine gate_dst (N:=48) rfl ?_);refine Pc.look_event ?hg (N:=48) ?hd (x:=.tmp 46) (y:=.tmp 47) ?ho (b:=m) MI.out (p:=xj) HG2.out (v:=false) ?hx ?hy HM.out ?_;(case hd=>rfl);(case hg=>rfl);(case ho=>rfl);(case hx=>first|(go_simp;done)|rfl);(case hy=>first|(go_simp;done)|rfl))|((with_reducible refine gate_ (.mapUpdate 47 (.tmp 50) (.tmp 51) (.const (.bool true))) rfl ?_);refine Pc.update_event ?hg ?hn (x:=.tmp 50) (y:=.tmp 51) (z:=.const (.bool true)) ?ho (b:=m) MI.out (p:=xj) HG2.out (v:=true) ?hx ?hy ?hz ?_;(case hg=>rfl);(case hn=>rfl);(case ho=>rfl);(case hx=>first|(go_simp;done)|rfl);(case hy=>first|(go_simp;done)|rfl);(case hz=>first|(go_simp;done)|rfl);intro w8 hi hgr;have HP':=am_ (Pc.row_grown HP.out MI.out hgr);have HW0':=am_ (Pc.row_grown HW0.out MI.out hgr);have HO':=am_ (Pc.rows_grown HO.out MI.out hgr);have BK':=am_ (blk_grown BK.out hgr NEb.out);have HB':=am_ (Pc.below_grown HB.out hgr (bZ_ HB.out) GEm.out);clear HP HW0 HO BK HB;have HP:=HP';have HW0:=HW0';have HO:=HO';have BK:=BK';have HB:=HB';clear HP' HW0' HO' BK' HB';clear MI;have MI:=am_ hi;clear hi hgr)|((with_reducible refine gate_builtin (b:=.append) (xs:=#[.tmp 52,.tmp 54]) rfl ?_);(try (refine gate_guard (by rfl) ?_;dsimp only));at_builtin;refine Kd.R_append (Kd.int .i64) (w0:=w) w.heap.size rfl (.tmp 52) (.tmp 54) 43 2 (.int .i64 0) 8 rfl Try.underlying43 info2 rfl (by decide) (by omega) (.slice A7 (Pc.rowS row st j).2.length c7) (Pc.rowS row st j).2 xj [.int .i64 xj] (fun _=>True) (fun _=>False) rfl rfl ?aP (fun _ hk=>hk.elim) (fun _ _=>trivial) HP.out HB.out (bZ_ HB.out) ?aL ?_;(case aP=>exact rfl);(case aL=>have:=HZL.out;omega);intro v55 w7 ho hb hg hat;have HO':=am_ (Kd.S_mono (ok':=fun k_=>some k_ ≠ (v55 : Value).ownBlock) (Kd.S_after (ok:=(fun _=>True)) (Kd.S_mono HO.out (fun _ hk=>⟨trivial,hk⟩)) hg hat) (fun _ h_=>h_.2));have HW0':=am_ (rM_ (ok':=fun k_=>some k_ ≠ (v55 : Value).ownBlock) (Kd.R_after (ok:=(fun _=>True)) (rM_ HW0.out (fun _ hk=>⟨trivial,hk⟩)) hg hat) (fun _ h_=>h_.2));have MI':=am_ (Go.Mp.Is.kept MI.out (hg.block _ MI.out.lt (Pc.is_off MI.out (Kd.R_typed HP.out))));have BK':=am_ (blk_grown BK.out hg (Kd.R_ne HP.out BK.out (by decide)));clear HO HW0 MI BK;have HO:=HO';have HW0:=HW0';have MI:=MI';have BK:=BK';clear HO' HW0' MI' BK';have HB':=am_ hb;have HP':=am_ ho;clear HB HP;have HB:=HB';have HP:=HP';clear HB' HP' ho hb hg hat))
           go_round
           case measure=>first|(exact Pc.less (V:=.int .i64 (wrap64 ((j : Int) + 1))) (V':=.int .i64 (j : Int)) ((Pc.int_eq _ _).trans hwj) (Pc.int_eq _ _) hjl)|(simp only [intOf];simp [hwj];omega)
           case rel =>
            have e_ : Pc.rowS row st (j + 1) = (Go.Mp.upd (Pc.rowS row st j).1 xj true,(Pc.rowS row st j).2 ++ [xj]):=by rw [HXJ.out,Pc.step,if_neg HMN2.out]
            refine ⟨j + 1,N2 + 1,by first|rfl|simp [hwj]|(simp;omega),hjl,?_,?_,HO,HW0,BK,HB⟩
            · rw [e_];exact HP
            · rw [e_];exact MI
         ·
          obtain rfl : j = row.length:=by omega
          have hwk : wrap64 ((kk : Int) + 1) = ((kk + 1 : Nat) : Int):=by have:=HSL.out;unfold wrap64;omega
          go_wp2
          go_round
          case measure=>first|(exact Pc.less (V:=.int .i64 (wrap64 ((kk : Int) + 1))) (V':=.int .i64 (kk : Int)) ((Pc.int_eq _ _).trans hwk) (Pc.int_eq _ _) (nT_ hkl (Nat.le_succ_of_le HSL.out)))|(simp only [intOf];simp [hwk];omega)
          case rel =>
           refine ⟨kk + 1,N2,Pc.rowS row st row.length,by first|rfl|simp [hwk]|(simp;omega),Nat.le_trans hkl HSL.out,Pc.inv_row HINV.out HRF.out.2 row.length (Nat.le_refl _),?_,HP,MI,HO,BK,HB⟩;have hb_:=HBF2.out;rw [HXK.out,HROW.out] at hb_;exact ⟨hb_⟩
       ·
        have HEND:=am_ (Pc.bfs_end HBF.out hkl);have q1 : ((kk : Int) < (st.2.length : Int)) = False:=eq_false (by omega);have q1n : (kk < st.2.length) = False:=eq_false hkl;clear hkl hinv hsl
        go_wp2_with (first|((with_reducible refine gate_callee (f:=20) rfl ?_);refine goesL_ (some 58) rfl rfl Try.func20 (by kernel_rfl) rfl #[.slice A7 st.2.length c7] rfl (by (try simp only [List.map_toArray,List.map_cons,List.map_nil]);first|done|(go_simp;done)|rfl) ?_;(with_reducible refine (slices_Sort_int64_int64.calls (fun k_=>some k_ = (Value.slice A7 st.2.length c7).ownBlock) (.slice A7 st.2.length c7) st.2 (Pc.sorted st.2) w _ HB.out (Kd.R_tight rfl HP.out) ?hs).mono ?_);(case hs=>have:=HSL.out;unfold slices_Sort_int64_int64.f;rw [if_pos (by omega)];rfl);rintro e w46 ⟨rfl,ho,hb,hk⟩;refine ⟨_,rfl,?_⟩;have HLn:=am_ (show (Pc.sorted st.2).length = st.2.length from List.length_mergeSort _);have HO':=am_ (Kd.S_step HO.out (fun k_ h_ hl_=>hk.2 k_ hl_ h_));have MI':=am_ (Go.Mp.Is.kept MI.out (hk.2 m MI.out.lt (Pc.is_off MI.out (Kd.R_typed HP.out))));have BK':=am_ ((hk.2 gb (kL_ BK.out) (Kd.R_ne HP.out BK.out (by decide))).trans BK.out);clear HO MI BK;have HO:=HO';have MI:=MI';have BK:=BK';clear HO' MI' BK';have HB':=am_ hb;have HP':=am_ ho;clear HB HP;have HB:=HB';have HP:=HP';clear HB' HP' ho hb hk)|((with_reducible refine gate_builtin (b:=.append) (xs:=#[.tmp 59,.tmp 61]) rfl ?_);(try (refine gate_guard (by rfl) ?_;dsimp only));at_builtin;refine Kd.S_append (Kd.slice 2 (Kd.int .i64)) (w0:=w) w.heap.size rfl (.tmp 59) (.tmp 61) 27 43 (.slice none 0 0) 24 rfl Try.underlying27 info43 rfl (by decide) (by omega) (.slice A4 (Pc.outer T i).2.length c4) (Pc.outer T i).2 (Pc.sorted st.2) [.slice A7 st.2.length c7] (fun _=>True) (fun k_=>some k_ = (.slice A7 st.2.length c7 : Value).ownBlock) rfl rfl ?aP (fun k_ hk_=>⟨trivial,((Kd.R_apart' HP.out (Kd.S_typed HO.out) (by decide)).1 k_ hk_.symm).2⟩) (fun _ _=>trivial) (Kd.S_mono HO.out (fun k_ hk=>⟨trivial,hk⟩)) HB.out (bZ_ HB.out) ?aL ?_;(case aP=>exact Kd.M_row (Kd.R_tight rfl HP.out));(case aL=>have:=HOL.out;omega);intro v62 w62 ho hb hg hat;have MI':=am_ (Go.Mp.Is.kept MI.out (hg.block _ MI.out.lt (Pc.is_off MI.out (Kd.S_typed HO.out))));have BK':=am_ (blk_grown BK.out hg (Kd.S_ne HO.out BK.out (by decide)));clear MI BK;have MI:=MI';have BK:=BK';clear MI' BK';have HB':=am_ hb;have HO':=am_ ho;clear HB HO;have HB:=HB';have HO:=HO';clear HB' HO' ho hb hg hat))
        go_round
        case measure=>first|(exact Pc.less (V:=.int .i64 (wrap64 ((i : Int) + 1))) (V':=.int .i64 (i : Int)) ((Pc.int_eq _ _).trans hwi) (Pc.int_eq _ _) hlt)|(simp only [intOf];simp [hwi];omega)
        case rel =>
         have e_ : Pc.outer T (i + 1) = (F.1,(Pc.outer T i).2 ++ [Pc.sorted F.2]):=by rw [Pc.outer,if_neg HMN.out,HFF.out]
         refine ⟨i + 1,N,by first|rfl|simp [hwi]|(simp;omega),hlt,?_,?_,BK,HB⟩
         · rw [e_,← HEND.out];exact HO
         · rw [e_,← HEND.out];exact MI
    ·
     obtain rfl : i = l0_2.length:=by omega
     go_wp2
     go_ret2
     exact ⟨_,rfl,HO.out,HB.out⟩
  ·
   rw [if_neg hok] at h
   cases h
 ·
  obtain rfl : b = false:=by simpa using c
  rw [if_neg (by decide)] at h;obtain ⟨rfl,rfl⟩ : [] = r1 ∧ 1 = r2:=by simpa using h
  clear h
  go_enter Try.func7,Try.ntmps7
  go_wp2_with (first|((with_reducible refine gate_dst (N:=1) rfl ?_);refine box_event ?hg (N:=1) ?hd (cs:=#[.int .i8 a0_0,.int .i8 a0_1,.slice A0_2 l0_2.length c0_2]) (t:=32) ?hr ?_;(case hd=>rfl);(case hg=>rfl);(case hr=>first|(go_simp;done)|(go_simp;rfl));intro gb hg wb hbox hb;have GEb:=am_ (show w.heap.size≤gb by rw [hg];exact Nat.le_refl _);have BK:=am_ hbox;have HB':=am_ (bT_ HB.out hb);clear HB;have HB:=HB';clear HB';have hq0 : wb.cell? ⟨gb,0,none⟩ = some (.int .i8 a0_0):=(kC_ BK.out 0).trans rfl;have hq1 : wb.cell? ⟨gb,1,none⟩ = some (.int .i8 a0_1):=(kC_ BK.out 1).trans rfl;have hq2 : wb.cell? ⟨gb,2,none⟩ = some (.slice A0_2 l0_2.length c0_2):=(kC_ BK.out 2).trans rfl;clear hb hbox hg)|((with_reducible refine gate_callee (f:=17) rfl ?_);refine goesL_ (some 12) rfl rfl Try.func17 (by kernel_rfl) rfl #[.agg #[.int .i8 a0_0,.int .i8 a0_1,.slice A0_2 l0_2.length c0_2]] rfl (by (try simp only [List.map_toArray,List.map_cons,List.map_nil]);first|done|rfl) ?_;(with_reducible refine (impl_ValidSquare.calls k a0_0 a0_1 A0_2 c0_2 l0_2 false _ ?side1 HC0_2.out A2.out).mono ?_);(case side1=>exact cB_ HR0_2.out HB.out);rintro e w5 ⟨rfl,hb⟩;refine ⟨_,rfl,?_⟩;clear hq0 hq1 hq2;have BK':=am_ (kB_ BK.out hb);have HB':=am_ (bT_ HB.out hb);clear BK HB;have BK:=BK';have HB:=HB';clear BK' HB';have hq0 : w5.cell? ⟨gb,0,none⟩ = some (.int .i8 a0_0):=(kC_ BK.out 0).trans rfl;have hq1 : w5.cell? ⟨gb,1,none⟩ = some (.int .i8 a0_1):=(kC_ BK.out 1).trans rfl;have hq2 : w5.cell? ⟨gb,2,none⟩ = some (.slice A0_2 l0_2.length c0_2):=(kC_ BK.out 2).trans rfl;clear hb))
  go_ret2
  exact ⟨_,rfl,Kd.S_nil _ _ _ _ _,HB.out⟩
end Go.Proofs.Ytljfjljeabcfgaa.Q
