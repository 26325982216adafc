import Derived.Test.YtnabkphkdkdigaaQ6
import Derived.Test.YtnabkphkdkdigaaQ7
import Derived.Test.YtnabkphkdkdigaaQLayA
import Derived.Outline
namespace Go.Proofs.Ytnabkphkdkdigaa.Q
open Go.RowKit Go.Shelf Go.Proofs.YtnabkphkdkdigaaW.PrintWords Go.Proofs.YtnabkphkdkdigaaW.PrintLast Go.Proofs.YtnabkphkdkdigaaW.PrintMore
set_option linter.unusedVariables false
set_option linter.unusedSimpArgs false
attribute [local go_sem] Oper.semAt_some
namespace Ly
theorem Mem.laid {n₀ gl cl Bl Bo : Nat} {w W W1 : World} {left out out1 : List Int} {vo v1 : Value} (h : Mem n₀ gl cl Bl Bo w W left out vo) (hn : n₀ ≤ w.heap.size) (hbb : Bl ≠ Bo) (hb0 : n₀ ≤ Bo) (hg : W.grownBy W1 vo.ownBlock) (ho : Kd.R (Kd.int .i64) 2 W1 n₀ (fun k => k ≠ gl) v1 out1) :
    Mem n₀ gl cl Bl Bo w (W1.setCell ⟨Bo, 0, none⟩ v1) left out1 v1 := by
  have ne : ∀ B u, Boxed W B 24 u → some B ≠ vo.ownBlock := fun B u hb e => by
    obtain ⟨cs, hc⟩ := Kd.R_typed h.orow B e.symm
    exact box_ne hb hc rfl
  have hbo := h.obox.kept hg (ne _ _ h.obox)
  refine ⟨Kd.R_set (Kd.R_grown h.lrow hg (fun k hk e => h.orow.1 k e.symm hk)) hbo (by decide) 0 _, Kd.R_set ho hbo (by decide) 0 _, (h.lbox.kept hg (ne _ _ h.lbox)).other hbb _, hbo.set _, (h.below.grown hg (Nat.le_trans hn h.below.size) (fun k e => Kd.R_base h.orow k e)).setCell (p := ⟨Bo, 0, none⟩) hb0 _⟩
theorem Mem.round {n₀ gl cl Bl Bo : Nat} {w W W1 : World} {left out out1 : List Int} {vo v1 : Value} (h : Mem n₀ gl cl Bl Bo w W left out vo) (hn : n₀ ≤ w.heap.size) (hbb : Bl ≠ Bo) (hb0 : n₀ ≤ Bo) (i : Nat) (x : Int) (hg : (W.setCell ⟨gl, i, none⟩ (.int .i64 x)).grownBy W1 vo.ownBlock) (ho : Kd.R (Kd.int .i64) 2 W1 n₀ (fun k => k ≠ gl) v1 out1) :
    Mem n₀ gl cl Bl Bo w (W1.setCell ⟨Bo, 0, none⟩ v1) (left.set i x) out1 v1 ∧ KeepsOthers W (W1.setCell ⟨Bo, 0, none⟩ v1) ∧ Below n₀ W (W1.setCell ⟨Bo, 0, none⟩ v1) ∧ ∀ b cs t, W.heap[b]? = some (.cells cs t (0, 0)) → t ≠ 2 → b ≠ Bo → (W1.setCell ⟨Bo, 0, none⟩ v1).heap[b]? = W.heap[b]? := by
  have hT := h.take hn i x
  obtain ⟨csl, hcl⟩ := lblock h.lrow
  have hgl := Kd.R_base h.lrow gl rfl
  have hb1 : Below n₀ W (W.setCell ⟨gl, i, none⟩ (.int .i64 x)) := (Below.refl _ W).setCell (p := ⟨gl, i, none⟩) hgl _
  refine ⟨hT.laid hn hbb hb0 hg ho, ((KeepsOthers.setCell W _ _).trans (KeepsOthers.of_grownBy hg (fun j o e hj => ?_))).trans (KeepsOthers.setCell W1 _ _), (hb1.trans ((Below.refl _ _).grown hg (Nat.le_trans hn hT.below.size) (fun k e => Kd.R_base hT.orow k e))).setCell (p := ⟨Bo, 0, none⟩) hb0 _, fun b cs t hb ht hbo => ?_⟩
  · obtain ⟨cs, hc⟩ := Kd.R_typed hT.orow j e
    rw [hc] at hj
    cases hj
    rfl
  · have h1 : b ≠ gl := by
      rintro rfl
      rw [hcl] at hb
      cases hb
      exact ht rfl
    have e1 : (W.setCell ⟨gl, i, none⟩ (.int .i64 x)).heap[b]? = W.heap[b]? := Below.heap_setCell W ⟨gl, i, none⟩ _ b h1
    refine (Below.heap_setCell W1 ⟨Bo, 0, none⟩ _ b hbo).trans ((hg.block b ?_ (fun e => ?_)).trans e1)
    · exact Nat.lt_of_lt_of_le (blk_lt hb) hb1.size
    · obtain ⟨cs', hc⟩ := Kd.R_typed hT.orow b e.symm
      rw [e1, hb] at hc
      cases hc
      exact ht rfl
theorem leaves {F : Fence} {n : Nat} {fn : Func} {tmps : Array Value} {R : Ending → World → Prop} {I : World → Prop} : ∀ (Ds : List Nat) (W : World), Ds.Nodup → (∀ b ∈ Ds, W.heap[b]? = some (.deferred (some []))) → I W →
    (∀ W b, b ∈ Ds → W.heap[b]? = some (.deferred (some [])) → I W → I (W.putObj b (.deferred none))) → (∀ W', I W' → LeavesInM F n Try.prog fn tmps R [] .returning W') →
    LeavesInM F n Try.prog fn tmps R (Ds.map fun b => { target := .collected b, args := #[] }) .returning W
  | [], W, _, _, hI, _, hend => hend W hI
  | b :: Ds, W, hn, hd, hI, hstep, hend => by
    have hb := hd b (by simp)
    obtain ⟨hnb, hn'⟩ := List.nodup_cons.1 hn
    refine ⟨by simp, .inl ⟨_, _, rfl, run_takeDeferred hb, leaves Ds _ hn' (fun b' hb' => ?_) (hstep W b (by simp) hb hI) (fun W' b' hb' => hstep W' b' (by simp [hb'])) hend⟩⟩
    exact (World.putObj_heap_other (by rintro rfl; exact hnb hb')).trans (hd b' (by simp [hb']))
theorem Mem.drewN {n₀ gl cl Bl Bo : Nat} {w W : World} {left out : List Int} {vo : Value} (h : Mem n₀ gl cl Bl Bo w W left out vo) (k : Nat) : Mem n₀ gl cl Bl Bo w (W.drewN k) left out vo :=
  ⟨Kd.R_drewN h.lrow k, Kd.R_drewN h.orow k, h.lbox, h.obox, pw_below_drewN h.below k⟩
theorem R_at {W : World} {n₀ : Nat} {okp : Nat → Prop} {v : Value} {xs : List Int} (h : Kd.R (Kd.int .i64) 2 W n₀ okp v xs) (hx : 0 < xs.length) : ∃ g cap, v = .slice (some ⟨g, 0, none⟩) xs.length cap := by
  obtain ⟨hok, inner, ⟨hlen, hr⟩, hreps⟩ := h
  rcases hr with ⟨hv, h0⟩ | ⟨g, cap, cur, hv, _⟩
  · omega
  · exact ⟨g, cap, hv⟩
theorem sum_take (c : List Int) (i : Nat) (h : i < c.length) : (c.take (i + 1)).sum = (c.take i).sum + rd c i := by
  rw [List.take_succ_eq_append_getElem h, List.sum_append]
  unfold rd
  rw [Int.toNat_natCast, List.getD_eq_getElem?_getD, List.getElem?_eq_getElem h]
  simp
theorem sum_bound {L : List S43} {c : List Int} (h : ok L c) : ∀ i, i ≤ c.length → 0 ≤ (c.take i).sum ∧ (c.take i).sum ≤ 60 * (i : Int)
  | 0, _ => by simp
  | i + 1, hi => by
    have ih := sum_bound h i (by omega)
    have h1 := rd_cok h i (by omega)
    rw [sum_take c i (by omega)]
    omega
set_option maxRecDepth 100000 in
set_option maxHeartbeats 4000000 in
theorem walk (k : Nat) (ad : Addr) (c0 : Nat) (L : List S43) (A1 : Option Addr) (c1 : Nat) (c : List Int) (r1 : List Int) (r2 : Int) (w : World) (hr0 : Kd.C k43 w (some ad) L.length L) (hc0 : L.length ≤ c0) (hr1 : Kd.C (Kd.int .i64) w A1 c.length c) (hc1 : c.length ≤ c1) (hv : impl_ValidSetts.f k L = some true) (hct : slices_ContainsFunc_int64_int64_at_impl_LayRow_1.f k c = some false) (hok : ok L c)
    (h : (if (List.range c.length).any (big L c) = true then some ([], 4) else (laps L c.sum k (c, [])).bind fun o => some (o, 0)) = some (r1, r2)) :
    CallsIn Fence.wide 6 Try.prog 16 #[.slice (some ad) L.length c0, .slice A1 c.length c1] w fun e w' => ∃ v0_ : Value, e = .returned (.tuple #[v0_, .int .i64 r2]) ∧ Kd.R (Kd.int .i64) 2 w' w.heap.size (fun _ => True) v0_ r1 ∧ Below w.heap.size w w' := by
  have HR0 := Aside0.mk hr0
  have HC0 := Aside0.mk hc0
  have HR1 := Aside0.mk hr1
  have HC1 := Aside0.mk hc1
  have HV := Aside0.mk hv
  have HCT := Aside0.mk hct
  have HO := Aside0.mk hok
  have H := Aside0.mk h
  have hl0 : 0 < L.length := hok.1
  have hl6 : L.length ≤ 6 := hok.2.1
  have hcl : c.length = L.length := hok.2.2.1
  have hcln := Aside0.mk (show slices_Clone_int64_int64.f c = some c by
    unfold slices_Clone_int64_int64.f
    rw [Option.bind_some, if_pos (by simp; omega), List.nil_append])
  have hadb : ad.block < w.heap.size := by
    obtain ⟨ad', e, h1, h2⟩ := at_T43 hr0 0 (by omega) (by omega)
    obtain rfl : ad = ad' := by injection e
    have := World.block_lt_of_cell? _ _ h1
    rwa [add_block] at this
  have hd1 : ((c.length : Int) == (L.length : Int)) = true := by simp [hcl]
  have hd2 : ((c.length : Int) != (L.length : Int)) = false := by simp [hcl]
  have HCL := Aside0.mk hcl
  clear hcl
  have HB := Aside0.mk (Below.refl w.heap.size w)
  clear hr0 hc0 hr1 hc1 hv hct hok h
  refine callsIn_of_wp_marks Try.func16 rfl trivial ?_ rfl
  simp only [Try.ntmps16, List.size_toArray, List.length_cons, List.length_nil, Nat.reduceAdd, Nat.reduceSub, Array.replicate_succ, Array.replicate_zero, List.push_toArray, List.append_toArray, List.nil_append, List.cons_append]
  refine wpIn_wide.2 ?_
  go_wp2_with (first | (go_at_call 26; (with_reducible refine (impl_ValidSetts.calls k (some ad) c0 L true _ HR0.out HC0.out HV.out).mono ?_); rintro e w1 ⟨rfl, hb1⟩; have HB1 := Aside0.mk hb1; clear hb1) | (go_at_call 27; (with_reducible refine (slices_ContainsFunc_int64_int64_at_impl_LayRow_1.calls k A1 c1 c false _ (Kd.C_below HR1.out HB1.out) HC1.out HCT.out).mono ?_); rintro e w2 ⟨rfl, ⟨nd, rfl⟩⟩) | (go_at_call 30; (with_reducible refine (slices_Clone_int64_int64.calls A1 c1 c c _ (Kd.C_drewN (Kd.C_below HR1.out HB1.out) _) HC1.out hcln.out).mono ?_); rintro e w3 ⟨v28, rfl, ho, hb⟩; have HB3 := Aside0.mk (below_step (pw_below_drewN HB1.out nd) hb); have HR28 := Aside0.mk (Kd.R_lower ho (below_size (pw_below_drewN HB1.out nd))); obtain ⟨gl, cl, rfl⟩ := R_at ho (by have := HCL.out; omega); clear ho hb))
  have hgl := Kd.R_base HR28.out gl rfl
  have hglt := blk_lt (Kd.R_typed HR28.out gl rfl).choose_spec
  have HRL := Aside0.mk (Kd.R_alloc (Kd.R_reok (ok := fun k_ => k_ = gl) rfl HR28.out (fun k_ h_ => (Option.some.inj h_).symm)) (.cells #[.slice (some ⟨gl, 0, none⟩) c.length cl] 24))
  have HLB := Aside0.mk (Boxed.new w3 24 (.slice (some ⟨gl, 0, none⟩) c.length cl))
  have hBl0 := below_size HB3.out
  have HB4 := Aside0.mk (below_alloc HB3.out (.cells #[.slice (some ⟨gl, 0, none⟩) c.length cl] 24))
  generalize w3.alloc (.cells #[.slice (some ⟨gl, 0, none⟩) c.length cl] 24) = W4 at *
  generalize w3.heap.size = Bl at *
  have HGL := Aside0.mk (And.intro hgl (And.intro hglt hBl0))
  clear hgl hglt hBl0 HR28 HB3 HB1 HCT HV hcln hd1 hd2
  go_loop [7, 31] (fun v7 v31 => ∃ i : Nat, v31 = .int .i64 i ∧ i ≤ c.length ∧ v7 = .int .i64 (c.take i).sum ∧ Aside0 (∀ j, j < i → big L c j = false)) (fun v7 v31 => c.length - (intOf v31).toNat)
  case atStart => exact ⟨0, rfl, Nat.zero_le _, rfl, ⟨fun j hj => absurd hj (by omega)⟩⟩
  case round =>
    obtain ⟨i, rfl, hi, rfl, hno⟩ := hrel
    by_cases hlt : i < c.length
    · have p3 : (i : Int) < (c.length : Int) := by omega
      have p3' : (i : Int) < (L.length : Int) := by have := HCL.out; omega
      have p4 : (0 : Int) ≤ (i : Int) := by omega
      obtain ⟨ad', e, hx0, hx1⟩ := at_T43 (Kd.C_below HR0.out HB4.out) (i : Int) p4 p3'
      obtain rfl : ad = ad' := by injection e
      clear e
      obtain ⟨adc, e, hy0⟩ := Kd.at_int (Kd.C_below HR1.out HB4.out) (i : Int) p4 p3
      cases e
      rw [Int.toNat_natCast] at hx0 hx1 hy0
      obtain ⟨b1, b2, b3, b4⟩ := rd_ok HO.out i (by have := HCL.out; omega)
      obtain ⟨b5, b6⟩ := rd_cok HO.out i hlt
      have HST := Aside0.mk (sum_take c i hlt)
      obtain ⟨s1, s2⟩ := sum_bound HO.out i hi
      have hi6 : (i : Int) ≤ 6 := by omega
      have HBG := Aside0.mk (show big L c i = decide ((rd_T43 L i).f1 < rd c i) from rfl)
      generalize rd_T43 L (i : Int) = sx at *
      generalize rd c (i : Int) = n at *
      generalize (c.take i).sum = sm at *
      have w1_ : IntKind.i64.wrap (sm + n) = sm + n := by rw [IntKind.wrap_i64]; omega
      have w2_ : IntKind.i64.wrap sx.f1 = sx.f1 := by rw [IntKind.wrap_i64]; omega
      by_cases hb : sx.f1 < n
      · have d1 : decide (sx.f1 < n) = true := decide_eq_true hb
        have d2 : decide (n > sx.f1) = true := decide_eq_true hb
        have hr := H.out
        rw [if_pos (List.any_eq_true.2 ⟨i, List.mem_range.2 hlt, by rw [HBG.out, d1]⟩)] at hr
        obtain ⟨rfl, rfl⟩ : [] = r1 ∧ 4 = r2 := by simpa using hr
        clear hr
        go_wp2
        exact ⟨_, results_tmp2 rfl _ _ _, _, rfl, Kd.R_nil _ _ _ _ _, HB4.out⟩
      · have d1 : decide (sx.f1 < n) = false := decide_eq_false hb
        have d2 : decide (n > sx.f1) = false := decide_eq_false hb
        go_wp2
        go_round
        case rel =>
          refine ⟨i + 1, by simp, by omega, by rw [HST.out], ⟨fun j hj => ?_⟩⟩
          rcases Nat.lt_or_ge j i with h1 | h1
          · exact hno.out j h1
          · obtain rfl : j = i := by omega
            rw [HBG.out, d1]
        case measure => simp [intOf]; omega
    · obtain rfl : i = c.length := by omega
      have hr := H.out
      rw [if_neg (by
        intro e
        obtain ⟨j, hj, hb⟩ := List.any_eq_true.1 e
        rw [hno.out j (List.mem_range.1 hj)] at hb
        cases hb), List.take_length] at *
      have HR := Aside0.mk hr
      have hs6 : c.sum ≤ 360 := HO.out.2.2.2.1
      generalize c.sum = many at *
      obtain ⟨o_, ho_, e_⟩ := Option.bind_eq_some_iff.1 HR.out
      obtain ⟨rfl, rfl⟩ : o_ = r1 ∧ 0 = r2 := by simpa using e_
      have HLAP := Aside0.mk ho_
      clear hr H hno HB HR ho_ e_
      go_wp2_with (first | ((with_reducible refine gate_dst (N := 48) rfl ?_); refine Kd.R_lit (Kd.int .i64) _ 2 ?hg (N := 48) ?hd (xs := ([] : List Int)) (inner := []) (ok := fun _ => True) (okp := fun _ => True) ?hr ?hp (fun _ hk => hk) trivial (Below.refl _ _) (Nat.le_refl _) (by simp) ?_; (case hd => rfl); (case hg => rfl); (case hr => first | (go_simp; done) | (go_simp; rfl)); (case hp => exact (Reps.none _ _)); intro v48 w48 ho hb hg_ hnew_; clear hg_ hnew_; (try simp only [Int.reduceToNat] at ho); have HB5 := Aside0.mk (below_step HB4.out hb); have hlt4 := blk_lt (Kd.R_typed HRL.out gl rfl).choose_spec; have HO5 := Aside0.mk (Kd.R_lower (Kd.R_reok (ok := fun k_ => k_ ≠ gl) rfl ho (fun k_ h_ => by have := Kd.R_base ho k_ h_; omega)) (below_size HB4.out)); have HRL5 := Aside0.mk (Kd.R_below HRL.out hb); have HLB5 := Aside0.mk ((hb.block Bl (Boxed.lt HLB.out)).trans HLB.out); obtain ⟨A48, c48, rfl⟩ := Kd.R_slice ho; clear hb ho hlt4 HRL HLB HB4))
      have HBo := Aside0.mk (And.intro (below_size HB5.out) (Boxed.lt HLB5.out))
      have HM5 := Aside0.mk (show Mem w.heap.size gl cl Bl w48.heap.size w (w48.alloc (.cells #[.slice A48 0 c48] 24)) c [] (.slice A48 0 c48) from ⟨Kd.R_alloc HRL5.out _, Kd.R_alloc HO5.out _, Boxed.alloc HLB5.out _, Boxed.new w48 24 _, below_alloc HB5.out _⟩)
      generalize w48.alloc (.cells #[.slice A48 0 c48] 24) = W6 at *
      generalize w48.heap.size = Bo at *
      have hbb : Bl ≠ Bo := by have := HBo.out.2; omega
      clear HRL5 HLB5 HO5 HB5
      refine wp_loop_ghost_k (fun kq a' wr => ∃ (st : List Int × List Int) (vo : Value) (Ds : List Nat) (u49 u50 u51 u52 u53 u54 : Value), Aside0 (laps L many kq st = some o_) ∧ Aside0 (Mem w.heap.size gl cl Bl Bo w wr st.1 st.2 vo) ∧ Aside0 (Sane L st st.2.length) ∧ Aside0 (Ds.Nodup ∧ ∀ b ∈ Ds, w.heap.size ≤ b ∧ wr.heap[b]? = some (.deferred (some []))) ∧ a' = { tmps := #[(.slice (some ad) L.length c0), (.slice A1 c.length c1), undef, undef, u4, u5, (.pointer (some ⟨Bl, 0, none⟩)), (.int .i64 many), u8, u9, (.pointer (some ⟨Bo, 0, none⟩)), undef, undef, (.bool false), (.slice (some ad) L.length c0), (.bool true), (.bool false), (.bool false), (.slice A1 c.length c1), (.int .i64 (c.length : Int)), (.slice (some ad) L.length c0), (.int .i64 (L.length : Int)), (.bool false), (.bool false), (.slice A1 c.length c1), (.bool false), (.bool false), (.slice A1 c.length c1), (.slice (some ⟨gl, 0, none⟩) c.length cl), (.slice A1 c.length c1), (.int .i64 (c.length : Int)), (.int .i64 (c.length : Int)), (.bool false), u33, u34, u35, u36, u37, u38, u39, u40, u41, u42, u43, u44, u45, u46, u47, (.slice A48 0 c48), u49, u50, u51, u52, u53, u54, undef, undef, undef, undef, undef, undef, undef, undef, undef, undef, undef, undef, undef, undef, undef, undef, undef, undef, undef, undef], defers := Ds.map fun b => { target := .collected b, args := #[] } }) k ?start ?round
      case start => exact ⟨(c, []), _, [], undef, undef, undef, undef, undef, undef, HLAP, HM5, ⟨⟨HCL.out, fun i hi => rd_cok HO.out i (by rw [HCL.out]; exact hi), Nat.le_refl _⟩⟩, ⟨⟨List.nodup_nil, by simp⟩⟩, rfl⟩
      case round =>
        rintro gk a' wr ⟨st, vo, Ds, u49, u50, u51, u52, u53, u54, hlap, hM, hS, hD, rfl⟩ J K hJ hK
        obtain ⟨Ao, co, rfl⟩ := Kd.R_slice hM.out.orow
        cases gk with
        | zero => exact absurd hlap.out (by rw [laps]; simp)
        | succ gk =>
          have hob := hM.out.obox.cell
          by_cases hlt : (st.2.length : Int) < many
          · have d1 : decide ((st.2.length : Int) < many) = true := decide_eq_true hlt
            go_wp2_with (first | (go_at_call 31; (with_reducible refine (impl_size_int64.calls Ao co st.2 _ _ (Kd.R_reads' hM.out.orow).2.2 (Kd.R_reads' hM.out.orow).2.1 rfl).mono ?_); rintro e w2 ⟨rfl, ⟨nd, rfl⟩⟩) | (go_at_call 22; refine ((callsIn_wide (n := 5)).1 (Bw.call_in 5 _ _ _ _)).mono ?_; rintro e w2 ⟨rfl, rfl⟩))
            obtain ⟨V, hV⟩ : ∃ V, V = (wr.drewN nd).alloc (.cells #[.slice (some ad) L.length c0] 27) := ⟨_, rfl⟩
            have hVs : V.heap.size = wr.heap.size + 1 := by rw [hV]; simp
            have hVB : V.heap[wr.heap.size]? = some (.cells #[.slice (some ad) L.length c0] 27 (0, 0)) := by rw [hV]; exact World.alloc_heap_new (wr.drewN nd) _
            have hVM : Mem w.heap.size gl cl Bl Bo w V st.1 st.2 (.slice Ao st.2.length co) := by rw [hV]; exact (hM.out.drewN nd).alloc (Nat.le_refl _) _
            have hVD : ∀ b ∈ Ds, b < wr.heap.size ∧ V.heap[b]? = some (.deferred (some [])) := fun b hb => by
              have h1 := (hD.out.2 b hb).2
              have h2 := blk_lt h1
              refine ⟨h2, ?_⟩
              rw [hV]
              exact (Below.heap_alloc (wr.drewN nd) _ b h2).trans h1
            have hw0 := hM.out.below.size
            rw [← hV]
            generalize wr.heap.size = Bs at *
            have HVD := Aside0.mk hVD
            have HVM := Aside0.mk hVM
            have HVB := Aside0.mk hVB
            have HVS := Aside0.mk hVs
            clear hV hVD hVM hVB hVs
            have hm360 : many ≤ 360 := hs6
            refine (wpIn_wide (n := 6)).1 ?_
            refine wpIn_rangeFunc_ownH (F := Fence.wide) (n := 6) (α := Fin L.length) rfl (by decide) (gf := 34) (lb := #[.pointer (some ⟨Bs, 0, none⟩)]) rfl trivial (enters_of Try.func34 (by kernel_rfl) rfl)
              (Bw.stops 5 (by decide) Bs w.heap.size ad c0 L hl0 (by omega) V (by rw [HVS.out]; omega) (by rw [HVS.out]; omega) HVB.out hadb (Kd.C_below HR0.out HVM.out.below))
              (fun h h' => Bw.Kp.trans h h') (fun W l o o' hl ho hc hw => ⟨(Below.refl _ W).grown (grownBy_putObj' W l o') (by have := (Array.getElem?_eq_some_iff.1 ho).1; rw [HVS.out] at hl; omega) (fun k e => by cases e; rw [HVS.out] at hl; omega), World.putObj_heap_other (by rw [HVS.out] at hl; omega)⟩) (Below.refl _ _) (fun _ => rfl)
              (fun pre W => (Sane L (run L st (pre.map fun i => i.1)) (360 + pre.length) ∧ V.heap.size ≤ W.heap.size ∧ W.heap[Bs]? = some (.cells #[.slice (some ad) L.length c0] 27 (0, 0))) ∧ (∃ vo, Mem w.heap.size gl cl Bl Bo w W (run L st (pre.map fun i => i.1)).1 (run L st (pre.map fun i => i.1)).2 vo) ∧ ∀ b ∈ Ds, W.heap[b]? = some (.deferred (some [])))
              (fun _ _ _ => False)
              (fun pre W W' row h hg hr => ⟨⟨h.1.1, Nat.le_trans h.1.2.1 hg.size, cells_kept h.1.2.2 hg (fun r e => (hr r e).2)⟩, h.2.1.imp (fun vo hm => hm.own (Nat.le_refl _) hg (fun r e => ⟨by have := (hr r e).1; rw [HVS.out] at this; omega, (hr r e).2⟩)), fun b hb => (hg.block b (blk_lt (h.2.2 b hb)) (fun e => by have := (hr b e.symm).1; have := (HVD.out b hb).1; rw [HVS.out] at *; omega)).trans (h.2.2 b hb)⟩)
              (fun _ _ _ _ _ hs _ _ => hs)
              ⟨⟨⟨hS.out.1, hS.out.2.1, by show st.2.length ≤ 360 + 0; omega⟩, Nat.le_refl _, HVB.out⟩, ⟨_, HVM.out⟩, fun b hb => (HVD.out b hb).2⟩
              (fun x a' W => ∃ Bx, W.heap[Bx]? = some (.cells #[.int .i8 (L[x]).f0, .int .i16 (L[x]).f1] 43 (0, 0)) ∧ a' = { tmps := #[(.slice (some ad) L.length c0), (.slice A1 c.length c1), undef, undef, u4, u5, (.pointer (some ⟨Bl, 0, none⟩)), (.int .i64 many), u8, u9, (.pointer (some ⟨Bo, 0, none⟩)), (.int .i64 ((x.1 : Nat) : Int)), (.pointer (some ⟨Bx, 0, none⟩)), (.bool false), (.slice (some ad) L.length c0), (.bool true), (.bool false), (.bool false), (.slice A1 c.length c1), (.int .i64 (c.length : Int)), (.slice (some ad) L.length c0), (.int .i64 (L.length : Int)), (.bool false), (.bool false), (.slice A1 c.length c1), (.bool false), (.bool false), (.slice A1 c.length c1), (.slice (some ⟨gl, 0, none⟩) c.length cl), (.slice A1 c.length c1), (.int .i64 (c.length : Int)), (.int .i64 (c.length : Int)), (.bool false), u33, u34, u35, u36, u37, u38, u39, u40, u41, u42, u43, u44, u45, u46, u47, (.slice A48 0 c48), (.slice Ao st.2.length co), (.int .i64 (st.2.length : Int)), (.int .i64 many), (.bool true), (.slice (some ad) L.length c0), (.func (.func 34) #[] #[.pointer (some ⟨Bs, 0, none⟩)]), (.int .i64 ((x.1 : Nat) : Int)), (Bw.enc L[x]), undef, undef, undef, undef, undef, undef, undef, undef, undef, undef, undef, undef, undef, undef, undef, undef, undef, undef], defers := [] })
              ?hAx ?assign ?body ?done ?stop
            case hAx =>
              intro x a' s A B row hs hg hr
              obtain ⟨Bx, h2, h3⟩ := hs
              exact ⟨Bx, cells_kept h2 hg (fun r e => (hr r e).2), h3⟩
            case stop =>
              rintro D c pre W _ _ h _
              exact h.elim
            case assign =>
              rintro l pre x W K' ⟨hs, ⟨vo, hm⟩, hd⟩ hK'
              simp only [Bw.enc, Fin.getElem_fin] at hK' ⊢
              gi_wp2
              refine hK' _ _ ((KeepsOthers.alloc _ _).from _) ⟨(Below.refl _ W).alloc hm.below.size _, Below.heap_alloc W _ _ (by have := hs.2.1; rw [HVS.out] at this; omega)⟩ ⟨⟨hs.1, Nat.le_trans hs.2.1 (by simp), (Below.heap_alloc W _ _ (by have := hs.2.1; rw [HVS.out] at this; omega)).trans hs.2.2⟩, ⟨vo, hm.alloc (Nat.le_refl _) _⟩, fun b hb => (Below.heap_alloc W _ b (blk_lt (hd b hb))).trans (hd b hb)⟩ ⟨W.heap.size, World.alloc_heap_new W _, rfl⟩
            case body =>
              rintro l pre ⟨xi, hxl⟩ a' W hl hrec ⟨⟨hs, hVW, hBs⟩, ⟨vo, hm⟩, hd⟩ ⟨Bx, bX, rfl⟩ hlt2
              obtain ⟨s, hst⟩ : ∃ s, run L st (pre.map fun i => i.1) = s := ⟨_, rfl⟩
              have hrun : run L st ((pre ++ [(⟨xi, hxl⟩ : Fin L.length)]).map fun i => i.1) = step L s xi := by rw [List.map_append, List.map_singleton, run_snoc, hst]
              rw [hst] at hs hm
              have hss := sane_step hs xi hxl
              rw [← hrun] at hss
              obtain ⟨b1, b2, b3, b4⟩ := rd_ok HO.out xi hxl
              have hsx : L[(⟨xi, hxl⟩ : Fin L.length)] = rd_T43 L (xi : Int) := by
                unfold rd_T43
                rw [Int.toNat_natCast, List.getD_eq_getElem?_getD, Fin.getElem_fin, List.getElem?_eq_getElem hxl]
                rfl
              have HSS := Aside0.mk hss
              have HRUN := Aside0.mk hrun
              obtain ⟨o1, o2⟩ := hs.2.1 xi hxl
              have hsl := hs.1
              have hol := hs.2.2
              have hli := hm.cell xi (by omega)
              rw [hsx] at bX ⊢
              have hstep : step L s xi = if 0 < rd s.1 xi then (s.1.set xi (rd s.1 xi - 1), s.2 ++ [(rd_T43 L xi).f0]) else s := rfl
              generalize rd_T43 L (xi : Int) = sx at *
              generalize rd s.1 (xi : Int) = nx at *
              have HST := Aside0.mk hstep
              clear hst hss hrun hsx hs hstep
              obtain ⟨Aq, cq, rfl⟩ := Kd.R_slice hm.orow
              obtain ⟨hcell, hfr⟩ := hli
              have hbl := hm.lbox.cell
              have hbo := hm.obox.cell
              have p3 : (xi : Int) < (s.1.length : Int) := by omega
              have p4 : (0 : Int) ≤ (xi : Int) := by omega
              simp only [Bw.enc]
              by_cases hpos : 0 < nx
              · have d1 : decide (0 < nx) = true := decide_eq_true hpos
                have d2 : decide (nx > 0) = true := decide_eq_true hpos
                have hwr : IntKind.i64.wrap (nx - 1) = nx - 1 := by rw [IntKind.wrap_i64]; omega
                have HT := Aside0.mk (hm.take (Nat.le_refl _) xi (nx - 1))
                have hbo2 := HT.out.obox.cell
                have hbof := HT.out.obox.frozen
                obtain ⟨csl, hcsl⟩ := lblock hm.lrow
                have bX2 : (W.setCell ⟨gl, xi, none⟩ (.int .i64 (nx - 1))).heap[Bx]? = some (.cells #[.int .i8 sx.f0, .int .i16 sx.f1] 43 (0, 0)) := (Below.heap_setCell W ⟨gl, xi, none⟩ _ Bx (fun e => by have e' : Bx = gl := e; rw [e', hcsl] at bX; cases bX)).trans bX
                have hx0 : (W.setCell ⟨gl, xi, none⟩ (.int .i64 (nx - 1))).cell? ⟨Bx, 0, none⟩ = some (.int .i8 sx.f0) := (blk_cell bX2 0).trans rfl
                have hwf : IntKind.i64.wrap sx.f0 = sx.f0 := by rw [IntKind.wrap_i64]; omega
                have HBX := Aside0.mk bX2
                have HCS := Aside0.mk hcsl
                clear bX2 hcsl
                gi_wp2_with (gi_at_builtin; refine append_in (W := W.setCell ⟨gl, xi, none⟩ (.int .i64 (nx - 1))) rfl (.tmp 68) (.tmp 72) rfl w.heap.size (fun k_ => k_ ≠ gl) (.slice Aq s.2.length cq) s.2 sx.f0 rfl ?hx HT.out.orow HT.out.below.size (by omega) ?hf ?_; (case hx => first | rfl | (go_simp; done)); (case hf => intro k_ hk_; have := blk_lt HCS.out; simp at hk_; omega); intro v73 w73 ho hg; obtain ⟨A73, c73, rfl⟩ := Kd.R_slice ho; have HR73 := Aside0.mk (hm.round (Nat.le_refl _) hbb (HBo.out.1) xi (nx - 1) hg ho); have hbo3 := (HT.out.obox.kept hg (fun e => by obtain ⟨cs_, hc_⟩ := Kd.R_typed HT.out.orow _ e.symm; exact box_ne HT.out.obox hc_ rfl)); have hbo3c := hbo3.cell; have hbo3f := hbo3.frozen; clear ho hg hbo3)
                obtain ⟨m1, m2, m3, m4⟩ := HR73.out
                rw [List.length_append, List.length_singleton] at m1 m2 m3 m4
                have hBe := m4 Bs _ _ hBs (by decide) (fun e => by
                  have h1 : W.heap[Bo]? = _ := hm.obox
                  rw [← e, hBs] at h1
                  simp at h1)
                refine ⟨m2.from _, ⟨m3, hBe⟩, ⟨by rw [show 360 + (pre ++ [(⟨xi, hxl⟩ : Fin L.length)]).length = 360 + pre.length + 1 by simp; omega]; exact HSS.out, Nat.le_trans hVW m2.size, hBe.trans hBs⟩, ⟨.slice A73 (s.2.length + 1) c73, ?_⟩, fun b hb => m2.same b _ (hd b hb) rfl⟩
                rw [HRUN.out, HST.out, if_pos hpos]
                exact m1
              · have d1 : decide (0 < nx) = false := decide_eq_false hpos
                have d2 : decide (nx > 0) = false := decide_eq_false hpos
                gi_wp2
                refine ⟨KeepsFrom.refl _ _, Bw.Kp.refl _ _ _, ⟨by rw [show 360 + (pre ++ [(⟨xi, hxl⟩ : Fin L.length)]).length = 360 + pre.length + 1 by simp; omega]; exact HSS.out, hVW, hBs⟩, ⟨.slice Aq s.2.length cq, ?_⟩, hd⟩
                rw [HRUN.out, HST.out, if_neg (by omega)]
                exact hm
            case done =>
              rintro D ys W hDD rfl ⟨hs, ⟨vo, hm⟩, hd⟩ hKD
              have hru : (Bw.upto L.length hl0 L.length).map (fun i => i.1) = backs L.length := by
                unfold Bw.upto backs
                rw [List.map_map]
                rfl
              rw [hru] at hs hm
              have hstep := hlap.out
              rw [laps, if_pos hlt] at hstep
              refine hK _ _ (Handed.intro gk (Nat.lt_succ_self _) (hJ _ _ _ ⟨run L st (backs L.length), vo, D :: Ds, _, _, _, _, _, _, ⟨hstep⟩, ⟨hm⟩, ⟨⟨hs.1.1, hs.1.2.1, Nat.le_refl _⟩⟩, ⟨⟨List.nodup_cons.2 ⟨fun hb => by have := (HVD.out D hb).1; rw [HVS.out] at hDD; omega, hD.out.1⟩, fun b hb => ?_⟩⟩, rfl⟩))
              rcases List.mem_cons.1 hb with rfl | hb
              · exact ⟨by rw [HVS.out] at hDD; omega, hKD⟩
              · exact ⟨(hD.out.2 b hb).1, hd b hb⟩
          · have d1 : decide ((st.2.length : Int) < many) = false := decide_eq_false hlt
            go_wp2_with (first | (go_at_call 31; (with_reducible refine (impl_size_int64.calls Ao co st.2 _ _ (Kd.R_reads' hM.out.orow).2.2 (Kd.R_reads' hM.out.orow).2.1 rfl).mono ?_); rintro e w2 ⟨rfl, ⟨nd, rfl⟩⟩))
            have hlap' := hlap.out
            rw [laps, if_neg (by omega)] at hlap'
            obtain rfl := Option.some.inj hlap'
            refine leaves (I := fun W' => Mem w.heap.size gl cl Bl Bo w W' st.1 st.2 (.slice Ao st.2.length co)) Ds _ hD.out.1 (fun b hb => (hD.out.2 b hb).2) (hM.out.drewN nd) (fun W' b hb hb2 hI => hI.own (Nat.le_refl _) (grownBy_putObj' W' b _) (fun r e => by cases e; exact ⟨(hD.out.2 b hb).1, _, hb2, rfl⟩)) (fun W' hI => ?_)
            exact ⟨_, results_tmp2 rfl _ _ _, _, rfl, Kd.R_mono hI.orow (fun _ _ => trivial), hI.below⟩
end Ly
end Go.Proofs.Ytnabkphkdkdigaa.Q
