/- The law on CutRow answers true for every list of setts, length and joint; no condition. -/
import Derived.Test.YtnabkphkdkdigaaQLawCutRow
import Derived.Test.YtnabkphkdkdigaaQOpn
import Derived.Test.YtnabkphkdkdigaaQBCode
import Derived.Test.YtnabkphkdkdigaaQBInts
namespace Go.Proofs.Ytnabkphkdkdigaa.Q
open Go.RowKit Go.Proofs.YtnabkphkdkdigaaW.PrintWords Go.Proofs.YtnabkphkdkdigaaW.PrintLast Go.Proofs.YtnabkphkdkdigaaW.PrintMore
set_option linter.unusedVariables false

def Pure.FnExactCutRow : Prop := ∀ (x0 : List (S45)) (x1 : Int) (x2 : Int), (x0.length ≤ maxLen ∧ ∀ z_ ∈ x0, wf45 z_) → (Lit.int .i64 x1).wf = true → (Lit.int .i64 x2).wf = true → ∃ k, laws_FnExactCutRow.f k x0 x1 x2 = some true

def goodE (s : S43) : Prop := 1 ≤ s.f0 ∧ s.f0 ≤ 20 ∧ 0 ≤ s.f1 ∧ s.f1 ≤ 60
theorem setts_goodE {l : List S43} (h : settsB l = true) (hw : ∀ s ∈ l, wrap64 s.f0 = s.f0 ∧ wrap64 s.f1 = s.f1) : ∀ s ∈ l, goodE s := by
  obtain ⟨h1, h2⟩ := loopV_all l.length 0 h
  intro s hs
  obtain ⟨e0, e1⟩ := hw s hs
  obtain ⟨i, hi, rfl⟩ := List.getElem_of_mem hs
  have hc := h2 i (by omega) (by omega)
  unfold settC at hc
  rw [Bool.and_eq_true, Bool.and_eq_true] at hc
  obtain ⟨⟨c1, c2⟩, -⟩ := hc
  obtain ⟨w1, w2⟩ := inB_iff.1 c1
  obtain ⟨n1, n2⟩ := inB_iff.1 c2
  rw [rdIT_get hi] at w1 w2 n1 n2
  rw [e0] at w1 w2
  rw [e1] at n1 n2
  exact ⟨w1, w2, n1, n2⟩
theorem wf_wrap {k : IntKind} {x : Int} (hk : k = .i8 ∨ k = .i16) (h : (Lit.int k x).wf = true) : wrap64 x = x := by
  have h2 : k.min ≤ x ∧ x ≤ k.max := by simpa [Lit.wf] using h
  rcases hk with rfl | rfl
  · have e0 : IntKind.i8.min = -128 := rfl
    have e1 : IntKind.i8.max = 127 := rfl
    exact w64 (by omega) (by omega)
  · have e0 : IntKind.i16.min = -32768 := rfl
    have e1 : IntKind.i16.max = 32767 := rfl
    exact w64 (by omega) (by omega)
theorem setts_wrap {l : List S45} (h : ∀ x ∈ l, wf45 x) : ∀ s ∈ l.map settOf, wrap64 s.f0 = s.f0 ∧ wrap64 s.f1 = s.f1 := by
  intro s hs
  obtain ⟨x, hx, rfl⟩ := List.mem_map.1 hs
  obtain ⟨h0, h1⟩ := h x hx
  exact ⟨wf_wrap (.inl rfl) h0, wf_wrap (.inr rfl) h1⟩
def remC (d : Nat) : List Nat := (List.range d).map fun k => d - 1 - k
theorem remC_succ (d : Nat) : remC (d + 1) = d :: remC d := by
  unfold remC
  rw [List.range_succ_eq_map, List.map_cons, List.map_map]
  rw [show d + 1 - 1 - 0 = d by omega]
  refine congrArg _ (List.map_congr_left fun k _ => ?_)
  show d + 1 - 1 - (k + 1) = d - 1 - k
  omega
theorem inner_val (L : List S43) (long a2 : Int) (hok : Cr.ok L long a2) (i : Nat) (hi : i < L.length) (r : List Int × Int × Int) : ∀ (n : Nat) (os : List Int) (lft : Int), ((rd_T43 L i).f1 - rd os i).toNat = n → Cr.Sane L os lft →
    Ev (fun k => spec_CutRow.l0 k L a2 (os.set i (rd os i + (Cr.cutIn n (rd_T43 L i).f0 a2 lft).1)) ((Cr.cutIn n (rd_T43 L i).f0 a2 lft).2 + a2) ((i : Int) - 1)) r →
    Ev (fun k => spec_CutRow.l1 k L a2 os (lft + a2) (i : Int) ((rd_T43 L i).f0 + a2)) r := by
  obtain ⟨b1, b2, b3, b4⟩ := Cr.rd_ok hok i hi
  have hj := hok.2.2.2.2.1
  have hj5 := hok.2.2.2.2.2.1
  have h6 := hok.2.1
  intro n
  induction n with
  | zero =>
    intro os lft hn hs h
    have hos := hs.1
    obtain ⟨o1, o2⟩ := hs.2.1 i hi
    refine Ev.step (fun k => spec_CutRow.l1.eq_2 _ _ _ _ _ _ _) (Ev.ite_pos (ge0 _) (Ev.ite_pos (by omega) (Ev.ite_pos (by omega) (Ev.ite_neg (by rw [w64 (by omega) (by omega)]; omega) ?_))))
    rw [w64 (x := (i : Int) - 1) (by omega) (by omega)]
    rw [Cr.cutIn] at h
    rw [show rd os i + ((0 : Nat) : Int) = rd os i by omega, Cr.set_rd _ _ (by omega)] at h
    exact h
  | succ n ih =>
    intro os lft hn hs h
    have hos := hs.1
    obtain ⟨o1, o2⟩ := hs.2.1 i hi
    refine Ev.step (fun k => spec_CutRow.l1.eq_2 _ _ _ _ _ _ _) (Ev.ite_pos (ge0 _) (Ev.ite_pos (by omega) (Ev.ite_pos (by omega) (Ev.ite_pos (by rw [w64 (by omega) (by omega)]; omega) ?_))))
    by_cases hc : (rd_T43 L i).f0 ≤ lft
    · have hrd : rd (os.set i (rd os i + 1)) i = rd os i + 1 := by rw [Cr.rd_set _ _ _ _ (by omega), if_pos rfl]
      refine Ev.ite_pos (by omega) ?_
      rw [w64 (x := rd os i + 1) (by omega) (by omega), Int.toNat_natCast, w64 (x := lft + a2 - ((rd_T43 L i).f0 + a2)) (by have := hs.2.2; omega) (by have := hs.2.2; omega), show lft + a2 - ((rd_T43 L i).f0 + a2) = (lft - ((rd_T43 L i).f0 + a2)) + a2 by omega]
      refine ih _ _ (by rw [hrd]; omega) ⟨by simpa using hos, fun k hk => ?_, by have := hs.2.2; omega, by have := hs.2.2; omega⟩ ?_
      · rw [Cr.rd_set _ _ _ _ (by omega)]
        by_cases e : i = k
        · rw [if_pos e]; omega
        · rw [if_neg e]; exact hs.2.1 k hk
      · rw [Cr.cutIn, if_pos hc] at h
        rw [List.set_set, hrd]
        rw [show rd os i + 1 + ((Cr.cutIn n (rd_T43 L i).f0 a2 (lft - ((rd_T43 L i).f0 + a2))).1 : Int) = rd os i + (((Cr.cutIn n (rd_T43 L i).f0 a2 (lft - ((rd_T43 L i).f0 + a2))).1 + 1 : Nat) : Int) by omega]
        exact h
    · refine Ev.ite_neg (by omega) ?_
      rw [w64 (x := (i : Int) - 1) (by omega) (by omega)]
      rw [Cr.cutIn, if_neg hc] at h
      rw [show rd os i + ((0 : Nat) : Int) = rd os i by omega, Cr.set_rd _ _ (by omega)] at h
      exact h
theorem last_val (L : List S43) (long a2 : Int) (hok : Cr.ok L long a2) (os : List Int) (lft : Int) (hs : Cr.Sane L os lft) (hl : ¬ lft ≤ 0) : ∀ d i, i + d = L.length → (∀ j, j < i → Cr.good L os lft j = false) →
    Ev (fun k => spec_CutRow.l2 k L os lft (i : Int)) (Cr.fin L os lft) := by
  have h6 := hok.2.1
  have hos := hs.1
  intro d
  induction d with
  | zero =>
    intro i hi hno
    obtain rfl : i = L.length := by omega
    have hf : (List.range L.length).find? (Cr.good L os lft) = none := List.find?_eq_none.2 fun j hj => by rw [hno j (List.mem_range.1 hj)]; decide
    refine Ev.step (fun k => spec_CutRow.l2.eq_2 _ _ _ _ _) (Ev.ite_neg (by omega) ?_)
    unfold Cr.fin
    rw [if_neg hl, hf]
    exact Ev.now _
  | succ d ih =>
    intro i hi hno
    have hlt : i < L.length := by omega
    obtain ⟨b1, b2, b3, b4⟩ := Cr.rd_ok hok i hlt
    obtain ⟨o1, o2⟩ := hs.2.1 i hlt
    have hg : Cr.good L os lft i = (decide (lft ≤ (rd_T43 L i).f0) && decide (rd os i < (rd_T43 L i).f1)) := rfl
    have e0 := w64 (x := (rd_T43 L i).f0) (by omega) (by omega)
    have e1 := w64 (x := (rd_T43 L i).f1) (by omega) (by omega)
    have go : Cr.good L os lft i = false → Ev (fun k => spec_CutRow.l2 k L os lft ((i + 1 : Nat) : Int)) (Cr.fin L os lft) := fun h => ih (i + 1) (by omega) fun j hj => by
      rcases Nat.lt_or_ge j i with h1 | h1
      · exact hno j h1
      · obtain rfl : j = i := by omega
        exact h
    refine Ev.step (fun k => spec_CutRow.l2.eq_2 _ _ _ _ _) (Ev.ite_pos (by omega) (Ev.ite_pos (ge0 _) ?_))
    rw [e0, e1, w64_succ (by omega)]
    by_cases c1 : lft ≤ (rd_T43 L i).f0
    · refine Ev.ite_pos c1 (Ev.ite_pos (by omega) ?_)
      by_cases c2 : rd os i < (rd_T43 L i).f1
      · refine Ev.ite_pos c2 ?_
        rw [Int.toNat_natCast, w64 (x := rd os i + 1) (by omega) (by omega), w64 (x := (rd_T43 L i).f0 - lft) (by have := hs.2.2; omega) (by have := hs.2.2; omega)]
        unfold Cr.fin
        rw [if_neg hl, Cr.find_first hlt (by rw [hg]; simp [c1, c2]) hno]
        exact Ev.now _
      · exact Ev.ite_neg c2 (go (by rw [hg]; simp [c2]))
    · exact Ev.ite_neg c1 (go (by rw [hg]; simp [c1]))
theorem outer_val (L : List S43) (long a2 : Int) (hok : Cr.ok L long a2) : ∀ d (st : List Int × Int), d ≤ L.length → Cr.Sane L st.1 st.2 →
    Ev (fun k => spec_CutRow.l0 k L a2 st.1 (st.2 + a2) ((d : Int) - 1)) (Cr.fin L ((remC d).foldl (Cr.step L a2) st).1 ((remC d).foldl (Cr.step L a2) st).2) := by
  have hj := hok.2.2.2.2.1
  have hj5 := hok.2.2.2.2.2.1
  have h6 := hok.2.1
  intro d
  induction d with
  | zero =>
    intro st hd hs
    show Ev _ (Cr.fin L st.1 st.2)
    refine Ev.step (fun k => spec_CutRow.l0.eq_2 _ _ _ _ _ _) (Ev.ite_neg (by omega) ?_)
    rw [w64 (x := st.2 + a2 - a2) (by have := hs.2.2; omega) (by have := hs.2.2; omega), show st.2 + a2 - a2 = st.2 by omega]
    by_cases hl : st.2 ≤ 0
    · refine Ev.ite_pos hl ?_
      unfold Cr.fin
      rw [if_pos hl]
      exact Ev.now _
    · exact Ev.ite_neg hl (last_val L long a2 hok st.1 st.2 hs hl L.length 0 (by omega) (fun j hj => absurd hj (by omega)))
  | succ d ih =>
    intro st hd hs
    obtain ⟨b1, b2, b3, b4⟩ := Cr.rd_ok hok d (by omega)
    rw [remC_succ, List.foldl_cons]
    have h := ih (Cr.step L a2 st d) (by omega) (Cr.sane_step hok hs d (by omega))
    rw [show ((d + 1 : Nat) : Int) - 1 = (d : Int) by omega]
    refine Ev.step (fun k => spec_CutRow.l0.eq_2 _ _ _ _ _ _) (Ev.ite_pos (ge0 _) (Ev.ite_pos (ge0 _) (Ev.ite_pos (by omega) ?_)))
    rw [w64 (x := (rd_T43 L d).f0) (by omega) (by omega), w64 (x := (rd_T43 L d).f0 + a2) (by omega) (by omega)]
    exact inner_val L long a2 hok d (by omega) _ _ st.1 st.2 rfl hs h
def cutRowR (l : List S43) (a1 a2 : Int) : List Int × Int × Int := if settsB l = true then (if (inB a1 1 400 && inB a2 0 5) = true then Cr.res l a1 a2 else ([], 0, 2)) else ([], 0, 1)
theorem ok_of {l : List S43} {a1 a2 : Int} (hw : ∀ s ∈ l, wrap64 s.f0 = s.f0 ∧ wrap64 s.f1 = s.f1) (hv : settsB l = true) (h1 : inB a1 1 400 = true) (h2 : inB a2 0 5 = true) : Cr.ok l a1 a2 := by
  obtain ⟨p0, p1⟩ := inB_iff.1 h1
  obtain ⟨q0, q1⟩ := inB_iff.1 h2
  obtain ⟨n0, n1⟩ := inB_iff.1 (loopV_all l.length 0 hv).1
  exact ⟨by omega, by omega, p0, p1, q0, q1, setts_goodE hv hw⟩
theorem fin_len (L : List S43) (os : List Int) (lft : Int) : (Cr.fin L os lft).1.length ≤ os.length := by
  unfold Cr.fin
  split
  · exact Nat.le_refl _
  · split
    · simp
    · simp
theorem run_len (L : List S43) (a2 : Int) : ∀ (is : List Nat) (st : List Int × Int), (is.foldl (Cr.step L a2) st).1.length = st.1.length
  | [], st => rfl
  | i :: is, st => by rw [List.foldl_cons, run_len L a2 is, Cr.step_length]
theorem cutRowR_len {l : List S43} (a1 a2 : Int) : (cutRowR l a1 a2).1.length ≤ l.length := by
  unfold cutRowR
  split
  · split
    · refine Nat.le_trans (fin_len _ _ _) ?_
      unfold Cr.run
      rw [run_len]
      simp
    · simp
  · simp
theorem implCutRow (l : List S43) (a1 a2 : Int) (h : l.length ≤ 1048576) (hw : ∀ s ∈ l, wrap64 s.f0 = s.f0 ∧ wrap64 s.f1 = s.f1) : Ev (fun k => impl_CutRow.f k l a1 a2) (cutRowR l a1 a2) := by
  unfold impl_CutRow.f
  refine Ev.bind (rowCode_val l a1 a2 h) ?_
  by_cases hv : settsB l = true
  · by_cases h2 : (inB a1 1 400 && inB a2 0 5) = true
    · rw [if_pos hv, if_pos h2, show cutRowR l a1 a2 = Cr.res l a1 a2 by unfold cutRowR; rw [if_pos hv, if_pos h2]]
      rw [Bool.and_eq_true] at h2
      rw [if_neg (by decide), if_pos (ok_of hw hv h2.1 h2.2)]
      exact Ev.now _
    · rw [if_pos hv, if_neg h2, show cutRowR l a1 a2 = ([], 0, 2) by unfold cutRowR; rw [if_pos hv, if_neg h2], if_pos (by decide)]
      exact Ev.now _
  · rw [if_neg hv, show cutRowR l a1 a2 = ([], 0, 1) from if_neg hv, if_pos (by decide)]
    exact Ev.now _
theorem specCutRow (l : List S43) (a1 a2 : Int) (h : l.length ≤ 1048576) (hw : ∀ s ∈ l, wrap64 s.f0 = s.f0 ∧ wrap64 s.f1 = s.f1) : Ev (fun k => spec_CutRow.f k l a1 a2) (cutRowR l a1 a2) := by
  unfold spec_CutRow.f
  refine Ev.call (long_val a1) ?_
  have no : ∀ x : Int, x ≠ 0 → Ev (fun k => spec_CutRow.j0 k l a1 a2 x) ([], 0, x) := fun x hx => Ev.step (fun k => spec_CutRow.j0.eq_2 _ _ _ _ _) (Ev.ite_neg hx (Ev.now _))
  by_cases hv : settsB l = true
  · by_cases h1 : inB a1 1 400 = true
    · refine Ev.ite_pos h1 (Ev.call (joint_val a2) (Ev.bind (asked_val l _ h) ?_))
      rw [if_pos hv]
      by_cases h2 : inB a2 0 5 = true
      · have hok := ok_of hw hv h1 h2
        have h6 := hok.2.1
        rw [if_pos h2, show cutRowR l a1 a2 = Cr.res l a1 a2 by unfold cutRowR; rw [if_pos hv, h1, h2]; rfl]
        have ho := outer_val l a1 a2 hok l.length (List.replicate l.length 0, a1) (Nat.le_refl _) (Cr.sane_start hok)
        refine Ev.step (fun k => spec_CutRow.j0.eq_2 _ _ _ _ _) (Ev.ite_pos rfl (Ev.ite_pos (ge0 _) (Ev.ite_pos (by rw [Int.toNat_natCast]; omega) ?_)))
        rw [Int.toNat_natCast, w64 (x := a1 + a2) (by have := hok.2.2; omega) (by have := hok.2.2; omega), w64 (x := (l.length : Int) - 1) (by omega) (by omega)]
        exact ho
      · rw [if_neg h2, show cutRowR l a1 a2 = ([], 0, 2) by unfold cutRowR; rw [if_pos hv, if_neg (by simp [h2])]]
        exact no 2 (by decide)
    · refine Ev.ite_neg h1 (Ev.bind (asked_val l _ h) ?_)
      rw [if_pos hv, show cutRowR l a1 a2 = ([], 0, 2) by unfold cutRowR; rw [if_pos hv, if_neg (by simp [h1])]]
      exact no 2 (by decide)
  · rw [show cutRowR l a1 a2 = ([], 0, 1) from if_neg hv]
    by_cases h1 : inB a1 1 400 = true
    · refine Ev.ite_pos h1 (Ev.call (joint_val a2) (Ev.bind (asked_val l _ h) ?_))
      rw [if_neg hv]
      exact no 1 (by decide)
    · refine Ev.ite_neg h1 (Ev.bind (asked_val l _ h) ?_)
      rw [if_neg hv]
      exact no 1 (by decide)
theorem markSetts (l : List S43) (h : l.length ≤ 1048576) : ∃ l', Ev (fun k => laws_markSettS.f k l 1) (1 + 2 * (l.length : Int), l') := by
  unfold laws_markSettS.f
  have key : ∀ d i (s : List S43), i + d = l.length → s.length = l.length → ∃ l', Ev (fun k => laws_markSettS.l0 k s (1 + 2 * (i : Int)) (i : Int)) (1 + 2 * (l.length : Int), l') := by
    intro d
    induction d with
    | zero =>
      intro i s hi hs
      obtain rfl : i = l.length := by omega
      exact ⟨s, Ev.step (fun k => laws_markSettS.l0.eq_2 _ _ _ _) (Ev.ite_neg (by omega) (Ev.now _))⟩
    | succ d ih =>
      intro i s hi hs
      obtain ⟨l', hl'⟩ := ih (i + 1) ((s.set i (⟨IntKind.i8.wrap (1 + 2 * (i : Int)), (rd_T43 s (i : Int)).f1⟩ : S43)).set i (⟨(rd_T43 (s.set i (⟨IntKind.i8.wrap (1 + 2 * (i : Int)), (rd_T43 s (i : Int)).f1⟩ : S43)) (i : Int)).f0, IntKind.i16.wrap (wrap64 ((1 + 2 * (i : Int)) + 1))⟩ : S43)) (by omega) (by simpa using hs)
      refine ⟨l', Ev.step (fun k => laws_markSettS.l0.eq_2 _ _ _ _) (Ev.ite_pos (by omega) (Ev.ite_pos (by omega) (Ev.call rfl ?_)))⟩
      rw [w64_succ (i := i) (by omega), show wrap64 (wrap64 (1 + 2 * (i : Int) + 1) + 1) = 1 + 2 * ((i + 1 : Nat) : Int) by rw [w64 (x := 1 + 2 * (i : Int) + 1) (by omega) (by omega), w64 (by omega) (by omega)]; omega]
      exact hl'
  exact key l.length 0 l (by omega) rfl
theorem pure_FnExactCutRow : Pure.FnExactCutRow := by
  rintro l a1 a2 ⟨hl, hwf⟩ - -
  unfold maxLen at hl
  refine Ev.rounds (g := fun k => laws_FnExactCutRow.f k l a1 a2) ?_
  unfold laws_FnExactCutRow.f
  refine Ev.call (szSetts l _ hl (by omega) (by omega)) ?_
  by_cases h : (1048576 : Int) < l.length
  · rw [if_pos h]
    exact Ev.ite_pos (by decide) (Ev.now _)
  · rw [if_neg h]
    have hlen := cutRowR_len (l := l.map settOf) a1 a2
    rw [List.length_map] at hlen
    have hw := setts_wrap hwf
    have hS := specCutRow (l.map settOf) a1 a2 (by simp; omega) hw
    have hI := implCutRow (l.map settOf) a1 a2 (by simp; omega) hw
    generalize cutRowR (l.map settOf) a1 a2 = R at *
    obtain ⟨l', hm⟩ := markSetts (l.map settOf) (by simp; omega)
    rw [List.length_map] at hm
    refine Ev.ite_neg (by omega) (Ev.bind (toSetts l (by omega)) (Ev.bind hS (Ev.bind (toSetts l (by omega)) (Ev.bind hI (Ev.bind (eqInts _ (by omega)) (Ev.ite_pos rfl (Ev.ite_pos rfl ?_)))))))
    rw [show (R.2.2 != R.2.2) = false by simp]
    refine Ev.step (fun k => laws_FnExactCutRow.j0.eq_2 _ _ _ _ _ _ _ _ _ _ _ _) (Ev.ite_neg (by decide) (Ev.bind (toSetts l (by omega)) (Ev.bind (eqSetts _ (by simp; omega)) (Ev.ite_pos rfl (Ev.bind hm (Ev.ite_neg (by show ¬ (1 + 2 * (l.length : Int) < 0); omega) (Ev.bind (eqInts _ (by omega)) (Ev.ite_pos rfl (Ev.ite_pos rfl ?_)))))))))
    rw [show (R.2.2 != R.2.2) = false by simp]
    refine Ev.step (fun k => laws_FnExactCutRow.j1.eq_2 _ _ _ _ _ _ _ _ _) (Ev.ite_neg (by decide) (Ev.bind (markInts _ (by omega)) (Ev.bind (heldInts _ (by omega)) (Ev.ite_neg (by omega) (Ev.ite_pos rfl (Ev.bind (toSetts l (by omega)) (Ev.bind hI (Ev.bind (eqInts _ (by omega)) (Ev.ite_pos rfl (Ev.ite_pos rfl ?_))))))))))
    rw [show (R.2.2 != R.2.2) = false by simp]
    exact Ev.step (fun k => laws_FnExactCutRow.j2.eq_2 _ _ _ _) (Ev.ite_neg (by decide) (Ev.bind (heldInts _ (by omega)) (Ev.ite_neg (by omega) (Ev.ite_pos rfl (Ev.now _)))))
end Go.Proofs.Ytnabkphkdkdigaa.Q
