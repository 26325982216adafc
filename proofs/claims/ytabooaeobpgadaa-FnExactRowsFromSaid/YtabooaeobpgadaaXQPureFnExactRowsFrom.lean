/- The law on RowsFrom answers true for every list of setts, length and joint; no condition. -/
import Derived.Test.YtabooaeobpgadaaXQLawRowsFrom
import Derived.Test.YtabooaeobpgadaaXQOpn
import Derived.Test.YtabooaeobpgadaaXQBAsk
import Derived.Test.YtabooaeobpgadaaXQBInts
namespace Go.Proofs.Ytabooaeobpgadaa.Q
open Go.RowKit Go.Proofs.YtabooaeobpgadaaW.PrintWords Go.Proofs.YtabooaeobpgadaaW.PrintLast Go.Proofs.YtabooaeobpgadaaW.PrintMore
set_option linter.unusedVariables false
def Pure.FnExactRowsFrom : Prop := ∀ (x0 : List (S68)) (x1 : Int) (x2 : Int), (x0.length ≤ maxLen ∧ ∀ z_ ∈ x0, wf68 z_) → (Lit.int .i64 x1).wf = true → (Lit.int .i64 x2).wf = true → ∃ k, laws_FnExactRowsFrom.f k x0 x1 x2 = some true
def goodE (s : S66) : Prop := 1 ≤ s.f0 ∧ s.f0 ≤ 20 ∧ 0 ≤ s.f1 ∧ s.f1 ≤ 60
def subC : List S66 → List Int → List S66
  | s :: l, k :: ks => ⟨s.f0, s.f1 - k⟩ :: subC l ks
  | _, _ => []
def okK : List S66 → List Int → Prop
  | s :: l, k :: ks => 0 ≤ k ∧ k ≤ s.f1 ∧ okK l ks
  | [], [] => True
  | _, _ => False
def total : List S66 → Int
  | [] => 0
  | s :: l => s.f1 + total l
def sumL : List Int → Int
  | [] => 0
  | k :: ks => k + sumL ks
theorem wOf_good {a2 : Int} (h0 : 0 ≤ a2) (h5 : a2 ≤ 5) {s : S66} (h : goodE s) : goodS a2 s (wOf a2 s).1 (wOf a2 s).2 ∧ (wOf a2 s).2 ≤ 60 ∧ (((wOf a2 s).2 : Nat) : Int) = s.f1 := by
  obtain ⟨h1, h2, h3, h4⟩ := h
  have e0 : wrap64 s.f0 = s.f0 := w64 (by omega) (by omega)
  have e1 : wrap64 s.f1 = s.f1 := w64 (by omega) (by omega)
  unfold wOf goodS
  rw [e0, e1, w64 (x := s.f0 + a2) (by omega) (by omega)]
  dsimp only
  omega
theorem pick_okK {a2 : Int} (h0 : 0 ≤ a2) (h5 : a2 ≤ 5) : ∀ (l : List S66) (p : Nat), (∀ s ∈ l, goodE s) → 0 ≤ minT (l.map (wOf a2)) p → okK l (pickT (l.map (wOf a2)) p) ∧ sumL (pickT (l.map (wOf a2)) p) = minT (l.map (wOf a2)) p
  | [], p, _, hm => by
    have h : 0 ≤ (if p = 0 then (0 : Int) else -1) := hm
    refine ⟨trivial, ?_⟩
    show (0 : Int) = if p = 0 then 0 else -1
    by_cases hp : p = 0
    · rw [if_pos hp]
    · rw [if_neg hp] at h; omega
  | s :: l, p, hl, hm => by
    obtain ⟨w, c, hwc⟩ : ∃ w c, wOf a2 s = (w, c) := ⟨_, _, rfl⟩
    obtain ⟨-, -, e⟩ := wOf_good h0 h5 (hl s (by simp))
    rw [hwc] at e
    rw [List.map_cons, hwc] at hm ⊢
    obtain ⟨q1, q2, q3, q4⟩ := pick_ok hm
    obtain ⟨i1, i2⟩ := pick_okK h0 h5 l _ (fun x hx => hl x (by simp [hx])) q3
    have hpick : pickT ((w, c) :: l.map (wOf a2)) p = ((pickK (minT (l.map (wOf a2))) w p (minT ((w, c) :: l.map (wOf a2)) p) c 0 : Nat) : Int) :: pickT (l.map (wOf a2)) (p - pickK (minT (l.map (wOf a2))) w p (minT ((w, c) :: l.map (wOf a2)) p) c 0 * w) := rfl
    rw [hpick]
    generalize pickK (minT (l.map (wOf a2))) w p (minT ((w, c) :: l.map (wOf a2)) p) c 0 = q at *
    refine ⟨⟨by omega, by show (q : Int) ≤ s.f1; have e' : (c : Int) = s.f1 := e; omega, i1⟩, ?_⟩
    show (q : Int) + sumL _ = _
    rw [i2]
    omega
theorem minT_zero : ∀ (ws : List (Nat × Nat)) (p : Nat), minT ws p = 0 → p = 0
  | [], p, h => by
    have h' : (if p = 0 then (0 : Int) else -1) = 0 := h
    by_cases hp : p = 0
    · exact hp
    · rw [if_neg hp] at h'; omega
  | (w, c) :: t, p, h => by
    obtain ⟨q1, q2, q3, q4⟩ := pick_ok (w := w) (c := c) (t := t) (p := p) (by omega)
    generalize pickK (minT t) w p (minT ((w, c) :: t) p) c 0 = q at *
    have hq : q = 0 := by omega
    subst hq
    have := minT_zero t _ (by omega : minT t (p - 0 * w) = 0)
    simpa using this
theorem okK_len : ∀ (l : List S66) (ks : List Int), okK l ks → ks.length = l.length
  | [], [], _ => rfl
  | s :: l, k :: ks, h => by rw [List.length_cons, List.length_cons, okK_len l ks h.2.2]
  | [], _ :: _, h => h.elim
  | _ :: _, [], h => h.elim
theorem subC_len : ∀ (l : List S66) (ks : List Int), okK l ks → (subC l ks).length = l.length
  | [], [], _ => rfl
  | s :: l, k :: ks, h => by
    show (_ :: subC l ks).length = _
    rw [List.length_cons, List.length_cons, subC_len l ks h.2.2]
  | [], _ :: _, h => h.elim
  | _ :: _, [], h => h.elim
theorem subC_good : ∀ (l : List S66) (ks : List Int), okK l ks → (∀ s ∈ l, goodE s) → ∀ s ∈ subC l ks, goodE s
  | [], [], _, _ => fun s hs => by cases hs
  | s :: l, k :: ks, h, hl => by
    intro x hx
    rcases List.mem_cons.1 (show x ∈ (⟨s.f0, s.f1 - k⟩ : S66) :: subC l ks from hx) with rfl | hx
    · obtain ⟨h1, h2, h3, h4⟩ := hl s (by simp)
      obtain ⟨k1, k2, -⟩ := h
      exact ⟨h1, h2, by show 0 ≤ s.f1 - k; omega, by show s.f1 - k ≤ 60; omega⟩
    · exact subC_good l ks h.2.2 (fun y hy => hl y (by simp [hy])) x hx
  | [], _ :: _, h, _ => h.elim
  | _ :: _, [], h, _ => h.elim
theorem subC_total : ∀ (l : List S66) (ks : List Int), okK l ks → total (subC l ks) = total l - sumL ks
  | [], [], _ => rfl
  | s :: l, k :: ks, h => by
    show s.f1 - k + total (subC l ks) = s.f1 + total l - (k + sumL ks)
    rw [subC_total l ks h.2.2]
    omega
  | [], _ :: _, h => h.elim
  | _ :: _, [], h => h.elim
theorem subC_get : ∀ (l : List S66) (ks : List Int), okK l ks → ∀ (i : Nat) (h : i < l.length) (h2 : i < ks.length) (h3 : i < (subC l ks).length), (subC l ks)[i] = ⟨l[i].f0, l[i].f1 - ks[i]⟩ ∧ 0 ≤ ks[i] ∧ ks[i] ≤ l[i].f1
  | s :: l, k :: ks, hk, 0, _, _, _ => ⟨rfl, hk.1, hk.2.1⟩
  | s :: l, k :: ks, hk, i + 1, h, h2, h3 => subC_get l ks hk.2.2 i (by simpa using h) (by simpa using h2) (by simpa [subC] using h3)
  | [], [], _, i, h, _, _ => by cases h
  | [], _ :: _, h, _, _, _, _ => h.elim
  | _ :: _, [], h, _, _, _, _ => h.elim
theorem total_bound : ∀ (l : List S66), (∀ s ∈ l, goodE s) → 0 ≤ total l ∧ total l ≤ 60 * l.length
  | [], _ => by simp [total]
  | s :: l, h => by
    have := total_bound l (fun y hy => h y (by simp [hy]))
    obtain ⟨h1, h2, h3, h4⟩ := h s (by simp)
    show 0 ≤ s.f1 + total l ∧ s.f1 + total l ≤ 60 * ((l.length + 1 : Nat) : Int)
    omega
def rowsF (a2 : Int) (N : Nat) : Nat → List S66 → Int → Int
  | 0, _, many => many
  | d + 1, l, many => if 0 ≤ minT (l.map (wOf a2)) N then rowsF a2 N d (subC l (pickT (l.map (wOf a2)) N)) (many + 1) else many
theorem i16 {x : Int} (h0 : 0 ≤ x) (h1 : x ≤ 1000) : IntKind.i16.wrap x = x := by
  unfold IntKind.wrap
  have e : x % (2 ^ IntKind.i16.bits : Int) = x := Int.emod_eq_of_lt h0 (by show x < 65536; omega)
  rw [e]
  have : ¬ (x ≥ (2 ^ (IntKind.i16.bits - 1) : Int)) := by show ¬ (x ≥ 32768); omega
  simp [this]
theorem good_fine {a2 : Int} (h0 : 0 ≤ a2) (h5 : a2 ≤ 5) {l : List S66} (hl : ∀ s ∈ l, goodE s) (h6 : l.length ≤ 6) : fineW (l.map (wOf a2)) ∧ goodL a2 l (l.map (wOf a2)) := by
  refine ⟨⟨by simpa using h6, fun x hx => ?_⟩, by simp, fun i hi => ?_⟩
  · obtain ⟨s, hs, rfl⟩ := List.mem_map.1 hx
    exact (wOf_good h0 h5 (hl s hs)).2.1
  · have hi' : i < l.length := by simpa using hi
    rw [List.getElem_map, rdIT_get hi']
    exact (wOf_good h0 h5 (hl _ (List.getElem_mem _))).1
theorem fillR_yes {ws : List (Nat × Nat)} {N : Nat} (h : 0 ≤ minT ws N) : fillR ws N = (pickT ws N, minT ws N, true) := if_pos h
theorem fillR_no {ws : List (Nat × Nat)} {N : Nat} (h : ¬ 0 ≤ minT ws N) : fillR ws N = ([], 0, false) := if_neg h
theorem take_step {l : List S66} {ks : List Int} (hk : okK l ks) (hl : ∀ s ∈ l, goodE s) {i : Nat} (hi : i < l.length) :
    ((subC l ks).take i ++ l.drop i).length = l.length ∧ rd ks (i : Int) = ks[i]'(by rw [okK_len l ks hk]; exact hi) ∧
    ((subC l ks).take i ++ l.drop i).set i (⟨(rd_T66 ((subC l ks).take i ++ l.drop i) (i : Int)).f0, IntKind.i16.wrap ((rd_T66 ((subC l ks).take i ++ l.drop i) (i : Int)).f1 - IntKind.i16.wrap (rd ks (i : Int)))⟩ : S66) = (subC l ks).take (i + 1) ++ l.drop (i + 1) := by
  have hlk := okK_len l ks hk
  have hls := subC_len l ks hk
  have ht : ((subC l ks).take i).length = i := by rw [List.length_take]; omega
  have h1 : ((subC l ks).take i ++ l.drop i).length = l.length := by rw [List.length_append, ht, List.length_drop]; omega
  have e1 : rd_T66 ((subC l ks).take i ++ l.drop i) (i : Int) = l[i] := by
    rw [rdIT_get (by omega), List.getElem_append_right (by omega)]
    simp [ht]
  have e2 : rd ks (i : Int) = ks[i]'(by omega) := rd_get (by omega)
  obtain ⟨g1, g2, g3⟩ := subC_get l ks hk i hi (by omega) (by omega)
  obtain ⟨b1, b2, b3, b4⟩ := hl _ (List.getElem_mem hi)
  refine ⟨h1, e2, ?_⟩
  rw [e1, e2, i16 g2 (by omega), i16 (by omega) (by omega), ← g1, List.set_append, if_neg (by omega), ht, Nat.sub_self, List.drop_eq_getElem_cons hi, List.set_cons_zero, List.take_succ_eq_append_getElem (by omega), List.append_assoc, List.singleton_append]
theorem impl_rows (a1 a2 : Int) (N : Nat) (h0 : 0 ≤ a2) (h5 : a2 ≤ 5) (hN : N ≤ 100000) (hN1 : 1 ≤ N) (hs : wrap64 (a1 + a2) = (N : Int)) : ∀ (d : Nat) (l : List S66) (many : Int), (∀ s ∈ l, goodE s) → l.length ≤ 6 → total l < d → 0 ≤ many → many + d ≤ 100000 → Ev (fun k => impl_RowsFrom.l0 k a1 a2 l many) (rowsF a2 N d l many, 0)
  | 0, l, many, hl, h6, ht, _, _ => by have := (total_bound l hl).1; omega
  | d + 1, l, many, hl, h6, ht, hm0, hm1 => by
    obtain ⟨hF, hg⟩ := good_fine h0 h5 hl h6
    refine Ev.step (fun k => impl_RowsFrom.l0.eq_2 _ _ _ _ _) (Ev.bind (implFill l a1 a2 _ N hN hF hg hs) ?_)
    unfold rowsF
    by_cases h : 0 ≤ minT (l.map (wOf a2)) N
    · rw [if_pos h, fillR_yes h]
      obtain ⟨hk, hsum⟩ := pick_okK h0 h5 l N hl h
      have hne : minT (l.map (wOf a2)) N ≠ 0 := fun e => by have := minT_zero _ _ e; omega
      have hto := subC_total l _ hk
      have hlk := okK_len l _ hk
      have hls := subC_len l _ hk
      have ih := impl_rows a1 a2 N h0 h5 hN hN1 hs d (subC l (pickT (l.map (wOf a2)) N)) (many + 1) (subC_good l _ hk hl) (by omega) (by omega) (by omega) (by omega)
      generalize pickT (l.map (wOf a2)) N = ks at *
      refine Ev.ite_pos rfl ?_
      have run : ∀ e i, i + e = l.length → Ev (fun k => impl_RowsFrom.l1 k a1 a2 ((subC l ks).take i ++ l.drop i) many ks (ks.length : Int) (i : Int)) (rowsF a2 N d (subC l ks) (many + 1), 0) := by
        intro e
        induction e with
        | zero =>
          intro i hi
          refine Ev.step (fun k => impl_RowsFrom.l1.eq_2 _ _ _ _ _ _ _ _) (Ev.ite_neg (by omega) ?_)
          rw [List.take_of_length_le (by omega), List.drop_of_length_le (by omega), List.append_nil, w64 (x := many + 1) (by omega) (by omega)]
          exact ih
        | succ e ihe =>
          intro i hi
          obtain ⟨t1, t2, t3⟩ := take_step hk hl (i := i) (by omega)
          refine Ev.step (fun k => impl_RowsFrom.l1.eq_2 _ _ _ _ _ _ _ _) (Ev.ite_pos (by omega) (Ev.ite_pos (by omega) (Ev.ite_pos (by omega) (Ev.ite_pos (by omega) ?_))))
          rw [Int.toNat_natCast, t3, w64_succ (by omega)]
          exact ihe (i + 1) (by omega)
      have r0 := run l.length 0 (by omega)
      simpa using r0
    · rw [if_neg h, fillR_no h]
      exact Ev.ite_neg (by decide) (Ev.now _)
theorem spec_rows (a1 a2 : Int) (N : Nat) (h0 : 0 ≤ a2) (h5 : a2 ≤ 5) (hN : N ≤ 100000) (hN1 : 1 ≤ N) (hs : wrap64 (a1 + a2) = (N : Int)) : ∀ (d : Nat) (l : List S66) (many : Int), (∀ s ∈ l, goodE s) → l.length ≤ 6 → total l < d → 0 ≤ many → many + d ≤ 100000 → Ev (fun k => spec_RowsFrom.l0 k a1 a2 l many) (rowsF a2 N d l many, 0)
  | 0, l, many, hl, h6, ht, _, _ => by have := (total_bound l hl).1; omega
  | d + 1, l, many, hl, h6, ht, hm0, hm1 => by
    obtain ⟨hF, hg⟩ := good_fine h0 h5 hl h6
    refine Ev.step (fun k => spec_RowsFrom.l0.eq_2 _ _ _ _ _) (Ev.bind (specFill l a1 a2 _ N hN hF hg hs) ?_)
    unfold rowsF
    by_cases h : 0 ≤ minT (l.map (wOf a2)) N
    · rw [if_pos h, fillR_yes h]
      obtain ⟨hk, hsum⟩ := pick_okK h0 h5 l N hl h
      have hne : minT (l.map (wOf a2)) N ≠ 0 := fun e => by have := minT_zero _ _ e; omega
      have hto := subC_total l _ hk
      have hlk := okK_len l _ hk
      have hls := subC_len l _ hk
      have ih := spec_rows a1 a2 N h0 h5 hN hN1 hs d (subC l (pickT (l.map (wOf a2)) N)) (many + 1) (subC_good l _ hk hl) (by omega) (by omega) (by omega) (by omega)
      generalize pickT (l.map (wOf a2)) N = ks at *
      refine Ev.ite_pos rfl ?_
      have run : ∀ e i, i + e = l.length → Ev (fun k => spec_RowsFrom.l1 k a1 a2 ((subC l ks).take i ++ l.drop i) many ks (i : Int)) (rowsF a2 N d (subC l ks) (many + 1), 0) := by
        intro e
        induction e with
        | zero =>
          intro i hi
          refine Ev.step (fun k => spec_RowsFrom.l1.eq_2 _ _ _ _ _ _ _) ?_
          rw [List.take_of_length_le (by omega), List.drop_of_length_le (by omega), List.append_nil, w64 (x := many + 1) (by omega) (by omega)]
          exact Ev.ite_neg (by omega) ih
        | succ e ihe =>
          intro i hi
          obtain ⟨t1, t2, t3⟩ := take_step hk hl (i := i) (by omega)
          refine Ev.step (fun k => spec_RowsFrom.l1.eq_2 _ _ _ _ _ _ _) (Ev.ite_pos (by omega) (Ev.ite_pos (by omega) (Ev.ite_pos (by omega) ?_)))
          rw [Int.toNat_natCast, t3, w64_succ (by omega)]
          exact ihe (i + 1) (by omega)
      have r0 := run l.length 0 (by omega)
      simpa using r0
    · rw [if_neg h, fillR_no h]
      exact Ev.ite_neg (by decide) (Ev.now _)
def rowsR (l : List S66) (a1 a2 : Int) : Int × Int := if settsB l = true then (if (inB a1 1 400 && inB a2 0 5) = true then (rowsF a2 (a1 + a2).toNat 400 l 0, 0) else (0, 2)) else (0, 1)
theorem setts_goodE {l : List S66} (h : settsB l = true) (hw : ∀ s ∈ l, wrap64 s.f0 = s.f0 ∧ wrap64 s.f1 = s.f1) : ∀ s ∈ l, goodE s := by
  obtain ⟨h1, h2⟩ := loopV_all l.length 0 h
  intro s hs
  obtain ⟨e0, e1⟩ := hw s hs
  obtain ⟨i, hi, rfl⟩ := List.getElem_of_mem hs
  have hc := h2 i (by omega) (by omega)
  unfold settC at hc
  rw [Bool.and_eq_true, Bool.and_eq_true] at hc
  obtain ⟨⟨c1, c2⟩, -⟩ := hc
  obtain ⟨w1, w2⟩ := inB_iff.1 c1
  obtain ⟨n1, n2⟩ := inB_iff.1 c2
  rw [rdIT_get hi] at w1 w2 n1 n2
  rw [e0] at w1 w2
  rw [e1] at n1 n2
  exact ⟨w1, w2, n1, n2⟩
theorem specRows (l : List S66) (a1 a2 : Int) (h : l.length ≤ 1048576) (hw : ∀ s ∈ l, wrap64 s.f0 = s.f0 ∧ wrap64 s.f1 = s.f1) : Ev (fun k => spec_RowsFrom.f k l a1 a2) (rowsR l a1 a2) := by
  unfold spec_RowsFrom.f
  refine Ev.call (long_val a1) ?_
  have no : ∀ x : Int, x ≠ 0 → Ev (fun k => spec_RowsFrom.j0 k l a1 a2 x) (0, x) := fun x hx => Ev.step (fun k => spec_RowsFrom.j0.eq_2 _ _ _ _ _) (Ev.ite_neg hx (Ev.now _))
  by_cases hv : settsB l = true
  · by_cases h1 : inB a1 1 400 = true
    · refine Ev.ite_pos h1 (Ev.call (joint_val a2) (Ev.bind (asked_val l _ h) ?_))
      rw [if_pos hv]
      by_cases h2 : inB a2 0 5 = true
      · obtain ⟨p0, p1⟩ := inB_iff.1 h1
        obtain ⟨q0, q1⟩ := inB_iff.1 h2
        have hE := setts_goodE hv hw
        have h6 := (setts_good hv a2 q0 q1).1
        have ht := total_bound l hE
        rw [if_pos h2, show rowsR l a1 a2 = (rowsF a2 (a1 + a2).toNat 400 l 0, 0) by unfold rowsR; rw [if_pos hv, h1, h2]; rfl]
        refine Ev.step (fun k => spec_RowsFrom.j0.eq_2 _ _ _ _ _) (Ev.ite_pos rfl (Ev.call rfl (Ev.ite_pos (by simp only [List.length_nil]; omega) ?_)))
        exact spec_rows a1 a2 (a1 + a2).toNat q0 q1 (by omega) (by omega) (by rw [w64 (by omega) (by omega)]; omega) 400 l 0 hE h6 (by omega) (by omega) (by omega)
      · rw [if_neg h2, show rowsR l a1 a2 = (0, 2) by unfold rowsR; rw [if_pos hv, if_neg (by simp [h2])]]
        exact no 2 (by decide)
    · refine Ev.ite_neg h1 (Ev.bind (asked_val l _ h) ?_)
      rw [if_pos hv, show rowsR l a1 a2 = (0, 2) by unfold rowsR; rw [if_pos hv, if_neg (by simp [h1])]]
      exact no 2 (by decide)
  · rw [show rowsR l a1 a2 = (0, 1) from if_neg hv]
    by_cases h1 : inB a1 1 400 = true
    · refine Ev.ite_pos h1 (Ev.call (joint_val a2) (Ev.bind (asked_val l _ h) ?_))
      rw [if_neg hv]
      exact no 1 (by decide)
    · refine Ev.ite_neg h1 (Ev.bind (asked_val l _ h) ?_)
      rw [if_neg hv]
      exact no 1 (by decide)
theorem implRows (l : List S66) (a1 a2 : Int) (h : l.length ≤ 1048576) (hw : ∀ s ∈ l, wrap64 s.f0 = s.f0 ∧ wrap64 s.f1 = s.f1) : Ev (fun k => impl_RowsFrom.f k l a1 a2) (rowsR l a1 a2) := by
  unfold impl_RowsFrom.f
  refine Ev.bind (rowCode_val l a1 a2 h) ?_
  by_cases hv : settsB l = true
  · by_cases h2 : (inB a1 1 400 && inB a2 0 5) = true
    · rw [if_pos hv, if_pos h2, show rowsR l a1 a2 = (rowsF a2 (a1 + a2).toNat 400 l 0, 0) by unfold rowsR; rw [if_pos hv, if_pos h2]]
      rw [Bool.and_eq_true] at h2
      obtain ⟨p0, p1⟩ := inB_iff.1 h2.1
      obtain ⟨q0, q1⟩ := inB_iff.1 h2.2
      have hE := setts_goodE hv hw
      have h6 := (setts_good hv a2 q0 q1).1
      have ht := total_bound l hE
      refine Ev.ite_pos rfl (Ev.call (a := l) ?_ ?_)
      · unfold impl_Sett_76.f
        rw [Option.bind_some, if_pos (by simp only [List.length_nil]; omega), List.nil_append]
      · exact impl_rows a1 a2 (a1 + a2).toNat q0 q1 (by omega) (by omega) (by rw [w64 (by omega) (by omega)]; omega) 400 l 0 hE h6 (by omega) (by omega) (by omega)
    · rw [if_pos hv, if_neg h2, show rowsR l a1 a2 = (0, 2) by unfold rowsR; rw [if_pos hv, if_neg h2]]
      exact Ev.ite_neg (by decide) (Ev.now _)
  · rw [if_neg hv, show rowsR l a1 a2 = (0, 1) from if_neg hv]
    exact Ev.ite_neg (by decide) (Ev.now _)
theorem wf_wrap {k : IntKind} {x : Int} (hk : k = .i8 ∨ k = .i16) (h : (Lit.int k x).wf = true) : wrap64 x = x := by
  have h2 : k.min ≤ x ∧ x ≤ k.max := by simpa [Lit.wf] using h
  rcases hk with rfl | rfl
  · have e0 : IntKind.i8.min = -128 := rfl
    have e1 : IntKind.i8.max = 127 := rfl
    exact w64 (by omega) (by omega)
  · have e0 : IntKind.i16.min = -32768 := rfl
    have e1 : IntKind.i16.max = 32767 := rfl
    exact w64 (by omega) (by omega)
theorem pure_FnExactRowsFrom : Pure.FnExactRowsFrom := by
  rintro l a1 a2 ⟨hl, hwf⟩ - -
  unfold maxLen at hl
  refine Ev.rounds (g := fun k => laws_FnExactRowsFrom.f k l a1 a2) ?_
  unfold laws_FnExactRowsFrom.f
  refine Ev.call (szSetts l _ hl (by omega) (by omega)) ?_
  by_cases h : (1048576 : Int) < l.length
  · rw [if_pos h]
    exact Ev.ite_pos (by decide) (Ev.now _)
  · rw [if_neg h]
    have hw : ∀ s ∈ l.map settOf, wrap64 s.f0 = s.f0 ∧ wrap64 s.f1 = s.f1 := by
      intro s hs
      obtain ⟨x, hx, rfl⟩ := List.mem_map.1 hs
      obtain ⟨h1, h2⟩ := hwf x hx
      exact ⟨wf_wrap (.inl rfl) h1, wf_wrap (.inr rfl) h2⟩
    have hS := specRows (l.map settOf) a1 a2 (by simp; omega) hw
    have hI := implRows (l.map settOf) a1 a2 (by simp; omega) hw
    generalize rowsR (l.map settOf) a1 a2 = R at *
    refine Ev.ite_neg (by omega) (Ev.bind (toSetts l (by omega)) (Ev.bind hS (Ev.bind (toSetts l (by omega)) (Ev.bind hI (Ev.ite_pos rfl ?_)))))
    rw [show (R.2 != R.2) = false by simp]
    exact Ev.step (fun k => laws_FnExactRowsFrom.j0.eq_2 _ _ _ _) (Ev.ite_neg (by decide) (Ev.bind (toSetts l (by omega)) (Ev.bind (eqSetts _ (by simp; omega)) (Ev.ite_pos rfl (Ev.now _)))))
end Go.Proofs.Ytabooaeobpgadaa.Q
