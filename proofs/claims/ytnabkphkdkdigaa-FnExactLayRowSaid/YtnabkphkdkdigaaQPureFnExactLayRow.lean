/- The law on LayRow answers true for every list of setts and counts; no condition. -/
import Derived.Test.YtnabkphkdkdigaaQLawLayRow
import Derived.Test.YtnabkphkdkdigaaQOpn
import Derived.Test.YtnabkphkdkdigaaQBCode
import Derived.Test.YtnabkphkdkdigaaQBInts
namespace Go.Proofs.Ytnabkphkdkdigaa.Q
open Go.RowKit Go.Proofs.YtnabkphkdkdigaaW.PrintWords Go.Proofs.YtnabkphkdkdigaaW.PrintLast Go.Proofs.YtnabkphkdkdigaaW.PrintMore
set_option linter.unusedVariables false

def Pure.FnExactLayRow : Prop := ∀ (x0 : List (S45)) (x1 : List Int), (x0.length ≤ maxLen ∧ ∀ z_ ∈ x0, wf45 z_) → (x1.length ≤ maxLen ∧ ∀ z_ ∈ x1, (Lit.int .i64 z_).wf = true) → ∃ k, laws_FnExactLayRow.f k x0 x1 = some true

def goodE (s : S43) : Prop := 1 ≤ s.f0 ∧ s.f0 ≤ 20 ∧ 0 ≤ s.f1 ∧ s.f1 ≤ 60
theorem setts_goodE {l : List S43} (h : settsB l = true) (hw : ∀ s ∈ l, wrap64 s.f0 = s.f0 ∧ wrap64 s.f1 = s.f1) : ∀ s ∈ l, goodE s := by
  obtain ⟨h1, h2⟩ := loopV_all l.length 0 h
  intro s hs
  obtain ⟨e0, e1⟩ := hw s hs
  obtain ⟨i, hi, rfl⟩ := List.getElem_of_mem hs
  have hc := h2 i (by omega) (by omega)
  unfold settC at hc
  rw [Bool.and_eq_true, Bool.and_eq_true] at hc
  obtain ⟨⟨c1, c2⟩, -⟩ := hc
  obtain ⟨w1, w2⟩ := inB_iff.1 c1
  obtain ⟨n1, n2⟩ := inB_iff.1 c2
  rw [rdIT_get hi] at w1 w2 n1 n2
  rw [e0] at w1 w2
  rw [e1] at n1 n2
  exact ⟨w1, w2, n1, n2⟩
theorem wf_wrap {k : IntKind} {x : Int} (hk : k = .i8 ∨ k = .i16) (h : (Lit.int k x).wf = true) : wrap64 x = x := by
  have h2 : k.min ≤ x ∧ x ≤ k.max := by simpa [Lit.wf] using h
  rcases hk with rfl | rfl
  · have e0 : IntKind.i8.min = -128 := rfl
    have e1 : IntKind.i8.max = 127 := rfl
    exact w64 (by omega) (by omega)
  · have e0 : IntKind.i16.min = -32768 := rfl
    have e1 : IntKind.i16.max = 32767 := rfl
    exact w64 (by omega) (by omega)
theorem setts_wrap {l : List S45} (h : ∀ x ∈ l, wf45 x) : ∀ s ∈ l.map settOf, wrap64 s.f0 = s.f0 ∧ wrap64 s.f1 = s.f1 := by
  intro s hs
  obtain ⟨x, hx, rfl⟩ := List.mem_map.1 hs
  obtain ⟨h0, h1⟩ := h x hx
  exact ⟨wf_wrap (.inl rfl) h0, wf_wrap (.inr rfl) h1⟩
theorem markSetts (l : List S43) (h : l.length ≤ 1048576) : ∃ l', Ev (fun k => laws_markSettS.f k l 1) (1 + 2 * (l.length : Int), l') := by
  unfold laws_markSettS.f
  have key : ∀ d i (s : List S43), i + d = l.length → s.length = l.length → ∃ l', Ev (fun k => laws_markSettS.l0 k s (1 + 2 * (i : Int)) (i : Int)) (1 + 2 * (l.length : Int), l') := by
    intro d
    induction d with
    | zero =>
      intro i s hi hs
      obtain rfl : i = l.length := by omega
      exact ⟨s, Ev.step (fun k => laws_markSettS.l0.eq_2 _ _ _ _) (Ev.ite_neg (by omega) (Ev.now _))⟩
    | succ d ih =>
      intro i s hi hs
      obtain ⟨l', hl'⟩ := ih (i + 1) ((s.set i (⟨IntKind.i8.wrap (1 + 2 * (i : Int)), (rd_T43 s (i : Int)).f1⟩ : S43)).set i (⟨(rd_T43 (s.set i (⟨IntKind.i8.wrap (1 + 2 * (i : Int)), (rd_T43 s (i : Int)).f1⟩ : S43)) (i : Int)).f0, IntKind.i16.wrap (wrap64 ((1 + 2 * (i : Int)) + 1))⟩ : S43)) (by omega) (by simpa using hs)
      refine ⟨l', Ev.step (fun k => laws_markSettS.l0.eq_2 _ _ _ _) (Ev.ite_pos (by omega) (Ev.ite_pos (by omega) (Ev.call rfl ?_)))⟩
      rw [w64_succ (i := i) (by omega), show wrap64 (wrap64 (1 + 2 * (i : Int) + 1) + 1) = 1 + 2 * ((i + 1 : Nat) : Int) by rw [w64 (x := 1 + 2 * (i : Int) + 1) (by omega) (by omega), w64 (by omega) (by omega)]; omega]
      exact hl'
  exact key l.length 0 l (by omega) rfl
/-- The whole numbers s, s + 1, ..: what a list holds that is marked from s on. -/
def markedAt (s : Int) (n : Nat) : List Int := (List.range n).map fun (j : Nat) => s + (j : Int)
theorem markFrom (l : List Int) (s0 : Int) (h : l.length ≤ 4611686018427387904) (p0 : 0 ≤ s0) (p1 : s0 ≤ 1125899906842624) : Ev (fun k => laws_markInt64S.f k l s0) (s0 + (l.length : Int), markedAt s0 l.length) := by
  unfold laws_markInt64S.f
  have h0 := Ev.run (L := fun k (s : List Int) (i : Nat) => laws_markInt64S.l0 k s (s0 + (i : Int)) i) l.length (fun i s => s.set i (s0 + (i : Int))) (fun i s => s.length = l.length ∧ s.take i = (markedAt s0 l.length).take i) (s0 + (l.length : Int), markedAt s0 l.length) ?_ ?_ (d := l.length) (i := 0) (s := l) (by omega) ⟨rfl, by simp⟩
  · simpa using h0
  · rintro i s hi ⟨h1, h2⟩
    have hm : (markedAt s0 l.length).length = l.length := by simp [markedAt]
    refine ⟨⟨by simpa using h1, ?_⟩, fun r hr => Ev.step (fun k => laws_markInt64S.l0.eq_2 _ _ _ _) ?_⟩
    · have e : (s0 + (i : Int)) = (markedAt s0 l.length)[i]'(by omega) := by simp [markedAt]
      show (s.set i (s0 + (i : Int))).take (i + 1) = _
      rw [e]
      exact take_set_succ (by omega) (by omega) h2
    · refine Ev.ite_pos (by omega) (Ev.ite_pos (ge0 _) ?_)
      rw [w64_succ (by omega), Int.toNat_natCast, w64 (by omega) (by omega), show (s0 + (i : Int) + 1) = s0 + ((i + 1 : Nat) : Int) by omega]
      exact hr
  · rintro s ⟨h1, h2⟩
    have hm : (markedAt s0 l.length).length = l.length := by simp [markedAt]
    refine Ev.step (fun k => laws_markInt64S.l0.eq_2 _ _ _ _) (Ev.ite_neg (by omega) ?_)
    rw [List.take_of_length_le (by omega), List.take_of_length_le (by omega)] at h2
    rw [h2]
    exact Ev.now _
theorem rd_get' {l : List Int} {i : Nat} (h : i < l.length) : rd l (i : Int) = l[i] := by
  unfold rd
  rw [Int.toNat_natCast, List.getD_eq_getElem?_getD, List.getElem?_eq_getElem h]
  rfl
theorem rd_cons0 (a : Int) (l : List Int) : rd (a :: l) ((0 : Nat) : Int) = a := rfl
theorem rd_conss (a : Int) (l : List Int) (i : Nat) : rd (a :: l) ((i + 1 : Nat) : Int) = rd l (i : Int) := by
  unfold rd
  rw [Int.toNat_natCast, Int.toNat_natCast]
  rfl
theorem sum_set : ∀ (l : List Int) (i : Nat) (v : Int), i < l.length → (l.set i v).sum = l.sum - rd l i + v
  | a :: l, 0, v, _ => by rw [rd_cons0, List.set_cons_zero, List.sum_cons, List.sum_cons]; omega
  | a :: l, i + 1, v, h => by
    have ih := sum_set l i v (by simpa using h)
    rw [rd_conss, List.set_cons_succ, List.sum_cons, List.sum_cons, ih]
    omega
theorem sum_zero : ∀ (l : List Int), (∀ j : Nat, j < l.length → rd l j = 0) → l.sum = 0
  | [], _ => rfl
  | a :: l, h => by
    have h0 := h 0 (by simp)
    rw [rd_cons0] at h0
    rw [List.sum_cons, h0, sum_zero l (fun j hj => by have := h (j + 1) (by simpa using hj); rwa [rd_conss] at this)]
    rfl
theorem sum_pos : ∀ (l : List Int), (∀ j : Nat, j < l.length → 0 ≤ rd l j) → 0 ≤ l.sum ∧ ∀ j : Nat, j < l.length → rd l j ≤ l.sum
  | [], _ => ⟨Int.le_refl _, fun j hj => absurd hj (by simp)⟩
  | a :: l, h => by
    have h0 := h 0 (by simp)
    rw [rd_cons0] at h0
    obtain ⟨s1, s2⟩ := sum_pos l (fun j hj => by have := h (j + 1) (by simpa using hj); rwa [rd_conss] at this)
    rw [List.sum_cons]
    refine ⟨by omega, fun j hj => ?_⟩
    cases j with
    | zero => rw [rd_cons0]; omega
    | succ j =>
      rw [rd_conss]
      have := s2 j (by simpa using hj)
      omega
theorem backs_succ (d : Nat) : Ly.backs (d + 1) = d :: Ly.backs d := by
  unfold Ly.backs
  rw [List.range_succ_eq_map, List.map_cons, List.map_map]
  rw [show d + 1 - 1 - 0 = d by omega]
  refine congrArg _ (List.map_congr_left fun k _ => ?_)
  show d + 1 - 1 - (k + 1) = d - 1 - k
  omega
theorem backs_lt (d : Nat) : ∀ i ∈ Ly.backs d, i < d := by
  intro i hi
  obtain ⟨k, hk, rfl⟩ := List.mem_map.1 hi
  have := List.mem_range.1 hk
  omega
/-- The row that is laid where so many of each have been laid. -/
def lap (L : List S43) (c : List Int) (n : Int) : Nat → List Int
  | 0 => []
  | d + 1 => if n < rd c d then (rd_T43 L d).f0 :: lap L c n d else lap L c n d
def lapsR (L : List S43) (c : List Int) : Nat → Int → List Int
  | 0, _ => []
  | d + 1, n => lap L c n L.length ++ lapsR L c d (n + 1)
theorem lap_len (L : List S43) (c : List Int) (n : Int) : ∀ d, (lap L c n d).length ≤ d
  | 0 => Nat.le_refl _
  | d + 1 => by
    have := lap_len L c n d
    rw [lap]
    split
    · rw [List.length_cons]; omega
    · omega
theorem lapsR_len (L : List S43) (c : List Int) : ∀ d n, (lapsR L c d n).length ≤ d * L.length
  | 0, _ => Nat.zero_le _
  | d + 1, n => by
    have := lapsR_len L c d (n + 1)
    have := lap_len L c n L.length
    rw [lapsR, List.length_append, Nat.succ_mul]
    omega
theorem run_lap (L : List S43) (c : List Int) (n : Int) : ∀ (d : Nat), d ≤ c.length → ∀ (left out : List Int), left.length = c.length → (∀ j : Nat, j < c.length → rd left j = if j < d then max 0 (rd c j - n) else max 0 (rd c j - (n + 1))) →
    (Ly.run L (left, out) (Ly.backs d)).1.length = c.length ∧ (∀ j : Nat, j < c.length → rd (Ly.run L (left, out) (Ly.backs d)).1 j = max 0 (rd c j - (n + 1))) ∧ (Ly.run L (left, out) (Ly.backs d)).2 = out ++ lap L c n d
  | 0, _, left, out, hl, h => ⟨hl, fun j hj => by have := h j hj; rw [if_neg (by omega)] at this; exact this, by show out = out ++ []; rw [List.append_nil]⟩
  | d + 1, hd, left, out, hl, h => by
    have hdd := h d (by omega)
    rw [if_pos (by omega)] at hdd
    rw [backs_succ, show Ly.run L (left, out) (d :: Ly.backs d) = Ly.run L (Ly.step L (left, out) d) (Ly.backs d) from rfl, lap]
    have hst : Ly.step L (left, out) d = if 0 < rd left d then (left.set d (rd left d - 1), out ++ [(rd_T43 L d).f0]) else (left, out) := rfl
    by_cases c1 : n < rd c d
    · rw [if_pos c1, hst, if_pos (by omega)]
      obtain ⟨r1, r2, r3⟩ := run_lap L c n d (by omega) (left.set d (rd left d - 1)) (out ++ [(rd_T43 L d).f0]) (by simpa using hl) (fun j hj => by
        rw [Cr.rd_set _ _ _ _ (by omega)]
        have := h j hj
        by_cases e : d = j
        · subst e
          rw [if_pos rfl, if_neg (by omega)]
          omega
        · rw [if_neg e]
          by_cases e2 : j < d
          · rw [if_pos (by omega)] at this; rw [if_pos e2]; exact this
          · rw [if_neg (by omega)] at this; rw [if_neg e2]; exact this)
      exact ⟨r1, r2, by rw [r3, List.append_assoc]; rfl⟩
    · rw [if_neg c1, hst, if_neg (by omega)]
      exact run_lap L c n d (by omega) left out hl (fun j hj => by
        have := h j hj
        by_cases e : d = j
        · subst e
          rw [if_neg (by omega)]
          omega
        · by_cases e2 : j < d
          · rw [if_pos (by omega)] at this; rw [if_pos e2]; exact this
          · rw [if_neg (by omega)] at this; rw [if_neg e2]; exact this)
theorem run_sum (L : List S43) : ∀ (is : List Nat) (st : List Int × List Int), (∀ i ∈ is, i < st.1.length) → ((Ly.run L st is).2.length : Int) + (Ly.run L st is).1.sum = (st.2.length : Int) + st.1.sum
  | [], st, _ => rfl
  | i :: is, st, h => by
    rw [show Ly.run L st (i :: is) = Ly.run L (Ly.step L st i) is from rfl]
    have hi := h i (by simp)
    by_cases c : 0 < rd st.1 i
    · have e : Ly.step L st i = (st.1.set i (rd st.1 i - 1), st.2 ++ [(rd_T43 L i).f0]) := if_pos c
      rw [run_sum L is _ (fun j hj => by rw [e]; simpa using h j (by simp [hj])), e]
      show ((st.2 ++ [_]).length : Int) + (st.1.set i (rd st.1 i - 1)).sum = _
      rw [sum_set _ _ _ hi, List.length_append, List.length_singleton]
      omega
    · have e : Ly.step L st i = st := if_neg c
      rw [e]
      exact run_sum L is st (fun j hj => h j (by simp [hj]))
theorem laps_val (L : List S43) (c : List Int) (many : Int) (hlc : c.length = L.length) : ∀ (d : Nat) (n : Int) (left out : List Int), left.length = c.length → (∀ j : Nat, j < c.length → rd left j = max 0 (rd c j - n)) → (out.length : Int) + left.sum = many → (∀ j : Nat, j < c.length → rd c j ≤ n + d) → (0 < d → ∃ j : Nat, j < c.length ∧ rd c j = n + d) →
    Ev (fun k => Ly.laps L many k (left, out)) (out ++ lapsR L c d n) := by
  intro d
  induction d with
  | zero =>
    intro n left out hl hr hm hle _
    have hz := sum_zero left (fun j hj => by rw [hl] at hj; have := hr j hj; have := hle j hj; omega)
    refine Ev.step (fun k => Ly.laps.eq_2 _ _ _ _) (Ev.ite_neg (by show ¬ (out.length : Int) < many; omega) ?_)
    rw [lapsR, List.append_nil]
    exact Ev.now _
  | succ d ih =>
    intro n left out hl hr hm hle hex
    obtain ⟨j, hj, hj2⟩ := hex (by omega)
    obtain ⟨s1, s2⟩ := sum_pos left (fun j hj => by rw [hl] at hj; have := hr j hj; omega)
    have hs := s2 j (by omega)
    have hrj := hr j hj
    obtain ⟨r1, r2, r3⟩ := run_lap L c n c.length (Nat.le_refl _) left out hl (fun j hj => by rw [if_pos hj]; exact hr j hj)
    have hsum := run_sum L (Ly.backs c.length) (left, out) (fun i hi => by show i < left.length; rw [hl]; exact backs_lt _ i hi)
    refine Ev.step (fun k => Ly.laps.eq_2 _ _ _ _) (Ev.ite_pos (by show (out.length : Int) < many; omega) ?_)
    rw [← hlc]
    generalize Ly.run L (left, out) (Ly.backs c.length) = st at *
    obtain ⟨left', out'⟩ := st
    have h3 : out' = out ++ lap L c n c.length := r3
    have h := ih (n + 1) left' out' r1 r2 (by have : (out'.length : Int) + left'.sum = (out.length : Int) + left.sum := hsum; omega) (fun j hj => by have := hle j hj; omega) (fun hd => by
      exact ⟨j, hj, by omega⟩)
    rw [h3, List.append_assoc] at h
    rw [lapsR, ← hlc, h3]
    exact h
/-- The greatest of the counts. -/
def mostOf (c : List Int) : Int := c.foldl (fun m x => if m > x then m else x) 0
theorem most_spec : ∀ (l : List Int) (m : Int), m ≤ l.foldl (fun m x => if m > x then m else x) m ∧ (∀ x ∈ l, x ≤ l.foldl (fun m x => if m > x then m else x) m) ∧ (l.foldl (fun m x => if m > x then m else x) m = m ∨ l.foldl (fun m x => if m > x then m else x) m ∈ l)
  | [], m => ⟨Int.le_refl _, by simp, .inl rfl⟩
  | a :: l, m => by
    obtain ⟨h1, h2, h3⟩ := most_spec l (if m > a then m else a)
    rw [List.foldl_cons]
    generalize l.foldl (fun m x => if m > x then m else x) (if m > a then m else a) = z at *
    by_cases c : m > a
    · rw [if_pos c] at h1 h3
      refine ⟨h1, fun x hx => ?_, ?_⟩
      · rcases List.mem_cons.1 hx with rfl | hx
        · omega
        · exact h2 x hx
      · rcases h3 with h3 | h3
        · exact .inl h3
        · exact .inr (by simp [h3])
    · rw [if_neg c] at h1 h3
      refine ⟨by omega, fun x hx => ?_, ?_⟩
      · rcases List.mem_cons.1 hx with rfl | hx
        · exact h1
        · exact h2 x hx
      · rcases h3 with h3 | h3
        · exact .inr (by simp [h3])
        · exact .inr (by simp [h3])
theorem w64b {x : Int} (h0 : -1000000 ≤ x) (h1 : x ≤ 2000000) : wrap64 x = x := w64 (by omega) (by omega)
def allIn (c : List Int) : Bool := c.all fun x => inB x 0 60
theorem index_val (c : List Int) (h : c.length ≤ 1048576) : ∀ (d i : Nat), i + d = c.length → ∃ r : Int, Ev (fun k => slices_IndexFunc_int64_int64_at_impl_LayRow_1.l0 k c (c.length : Int) (i : Int)) r ∧ decide (r ≥ 0) = !(allIn (c.drop i)) := by
  intro d
  induction d with
  | zero =>
    intro i hi
    refine ⟨-1, Ev.step (fun k => slices_IndexFunc_int64_int64_at_impl_LayRow_1.l0.eq_2 _ _ _ _) (Ev.ite_neg (by omega) (Ev.now _)), ?_⟩
    rw [List.drop_eq_nil_of_le (by omega)]
    rfl
  | succ d ih =>
    intro i hi
    have hlt : i < c.length := by omega
    obtain ⟨r, hr, hd⟩ := ih (i + 1) (by omega)
    have hc : impl_LayRow_1.f (rd c (i : Int)) = some (!inB (rd c (i : Int)) 0 60) := by
      unfold impl_LayRow_1.f
      rw [within_val]
      rfl
    have e : allIn (c.drop i) = (inB (rd c (i : Int)) 0 60 && allIn (c.drop (i + 1))) := by
      rw [List.drop_eq_getElem_cons hlt, rd_get' hlt]
      rfl
    rw [e]
    by_cases hb : inB (rd c (i : Int)) 0 60 = true
    · refine ⟨r, Ev.step (fun k => slices_IndexFunc_int64_int64_at_impl_LayRow_1.l0.eq_2 _ _ _ _) (Ev.ite_pos (by omega) (Ev.ite_pos (by omega) (Ev.ite_pos (by omega) (Ev.call hc (Ev.ite_neg (by rw [hb]; decide) ?_))))), ?_⟩
      · rw [w64b (x := (i : Int) + 1) (by omega) (by omega), show (i : Int) + 1 = ((i + 1 : Nat) : Int) by omega]
        exact hr
      · rw [hd, hb]
        rfl
    · have hb' : inB (rd c (i : Int)) 0 60 = false := by simpa using hb
      refine ⟨(i : Int), Ev.step (fun k => slices_IndexFunc_int64_int64_at_impl_LayRow_1.l0.eq_2 _ _ _ _) (Ev.ite_pos (by omega) (Ev.ite_pos (by omega) (Ev.ite_pos (by omega) (Ev.call hc (Ev.ite_pos (by rw [hb']; rfl) (Ev.now _)))))), ?_⟩
      rw [hb']
      simp
theorem contains_val (c : List Int) (h : c.length ≤ 1048576) : Ev (fun k => slices_ContainsFunc_int64_int64_at_impl_LayRow_1.f k c) (!allIn c) := by
  obtain ⟨r, hr, hd⟩ := index_val c h c.length 0 (by omega)
  unfold slices_ContainsFunc_int64_int64_at_impl_LayRow_1.f
  refine Ev.bind hr ?_
  rw [List.drop_zero] at hd
  rw [hd]
  exact Ev.now _
def layRowR (L : List S43) (c : List Int) : List Int × Int :=
  if settsB L = true then (if (decide (c.length = L.length) && allIn c) = true then (if (List.range c.length).any (Ly.big L c) = true then ([], 4) else (lapsR L c (mostOf c).toNat 0, 0)) else ([], 2)) else ([], 1)
theorem in_of {c : List Int} (h : allIn c = true) : ∀ n ∈ c, 0 ≤ n ∧ n ≤ 60 := fun n hn => inB_iff.1 (List.all_eq_true.1 h n hn)
theorem rd_in {c : List Int} (h : allIn c = true) {j : Nat} (hj : j < c.length) : 0 ≤ rd c j ∧ rd c j ≤ 60 := by
  rw [rd_get' hj]
  exact in_of h _ (List.getElem_mem hj)
theorem most_in {c : List Int} (h : allIn c = true) : 0 ≤ mostOf c ∧ mostOf c ≤ 60 ∧ (∀ j : Nat, j < c.length → rd c j ≤ mostOf c) ∧ (0 < mostOf c → ∃ j : Nat, j < c.length ∧ rd c j = mostOf c) := by
  obtain ⟨h1, h2, h3⟩ := most_spec c 0
  have e : c.foldl (fun m x => if m > x then m else x) 0 = mostOf c := rfl
  rw [e] at h1 h2 h3
  refine ⟨h1, ?_, fun j hj => by rw [rd_get' hj]; exact h2 _ (List.getElem_mem hj), fun hp => ?_⟩
  · rcases h3 with h3 | h3
    · omega
    · exact (in_of h _ h3).2
  · rcases h3 with h3 | h3
    · omega
    · obtain ⟨j, hj, he⟩ := List.getElem_of_mem h3
      exact ⟨j, hj, by rw [rd_get' hj, he]⟩
theorem sum_le {c : List Int} (h : allIn c = true) : c.sum ≤ 60 * (c.length : Int) := by
  have : ∀ l : List Int, (∀ n ∈ l, 0 ≤ n ∧ n ≤ 60) → l.sum ≤ 60 * (l.length : Int) := by
    intro l
    induction l with
    | nil => intro _; simp
    | cons a l ih =>
      intro h
      have h1 := h a (by simp)
      have h2 := ih (fun n hn => h n (by simp [hn]))
      rw [List.sum_cons, List.length_cons]
      omega
  exact this c (in_of h)
theorem ok_of {L : List S43} {c : List Int} (hw : ∀ s ∈ L, wrap64 s.f0 = s.f0 ∧ wrap64 s.f1 = s.f1) (hv : settsB L = true) (hl : c.length = L.length) (hc : allIn c = true) : Ly.ok L c := by
  obtain ⟨n0, n1⟩ := inB_iff.1 (loopV_all L.length 0 hv).1
  have := sum_le hc
  exact ⟨by omega, by omega, hl, by omega, setts_goodE hv hw, in_of hc⟩
theorem implLayRow (L : List S43) (c : List Int) (h : L.length ≤ 1048576) (h2 : c.length ≤ 1048576) (hw : ∀ s ∈ L, wrap64 s.f0 = s.f0 ∧ wrap64 s.f1 = s.f1) : Ev (fun k => impl_LayRow.f k L c) (layRowR L c) := by
  unfold impl_LayRow.f
  refine Ev.bind (implSetts L h) ?_
  by_cases hv : settsB L = true
  · refine Ev.ite_pos hv ?_
    by_cases hl : c.length = L.length
    · refine Ev.ite_pos hl (Ev.bind (contains_val c h2) ?_)
      by_cases hc : allIn c = true
      · have hok := ok_of hw hv hl hc
        have hR : layRowR L c = if (List.range c.length).any (Ly.big L c) = true then ([], 4) else (lapsR L c (mostOf c).toNat 0, 0) := by
          unfold layRowR
          rw [if_pos hv, if_pos (by rw [hc, hl]; simp)]
        rw [hR]
        refine Ev.ite_neg (by rw [hc]; decide) (Ev.ite_pos hok ?_)
        by_cases hb : (List.range c.length).any (Ly.big L c) = true
        · rw [if_pos hb]
          exact Ev.ite_pos hb (Ev.now _)
        · rw [if_neg hb]
          obtain ⟨m0, m1, m2, m3⟩ := most_in hc
          refine Ev.ite_neg hb (Ev.bind (laps_val L c c.sum hl (mostOf c).toNat 0 c [] rfl (fun j hj => by have := rd_in hc hj; omega) (by simp) (fun j hj => by have := m2 j hj; omega) (fun hp => by obtain ⟨j, hj, he⟩ := m3 (by omega); exact ⟨j, hj, by omega⟩)) ?_)
          rw [List.nil_append]
          exact Ev.now _
      · have hc' : allIn c = false := by simpa using hc
        refine Ev.ite_pos (by rw [hc']; rfl) ?_
        unfold layRowR
        rw [if_pos hv, if_neg (by rw [hc']; simp)]
        exact Ev.now _
    · refine Ev.ite_neg hl ?_
      unfold layRowR
      rw [if_pos hv, if_neg (by simp [hl])]
      exact Ev.now _
  · refine Ev.ite_neg hv ?_
    unfold layRowR
    rw [if_neg hv]
    exact Ev.now _
theorem lap_ref (L : List S43) (c : List Int) (most : Int) (hok : Ly.ok L c) (n : Nat) (r : List Int × Int) : ∀ (d : Nat), d ≤ L.length → ∀ out : List Int, out.length + d ≤ 1000000 →
    Ev (fun k => spec_LayRow.l2 k L c (out ++ lap L c (n : Int) d) most (wrap64 ((n : Int) + 1))) r → Ev (fun k => spec_LayRow.l3 k L c out most (n : Int) ((d : Int) - 1)) r := by
  have hlc := hok.2.2.1
  have h6 := hok.2.1
  intro d
  induction d with
  | zero =>
    intro _ out ho h
    rw [lap, List.append_nil] at h
    exact Ev.step (fun k => spec_LayRow.l3.eq_2 _ _ _ _ _ _ _) (Ev.ite_neg (by omega) h)
  | succ d ih =>
    intro hd out ho h
    obtain ⟨b1, b2, b3, b4⟩ := Ly.rd_ok hok d (by omega)
    rw [show ((d + 1 : Nat) : Int) - 1 = (d : Int) by omega]
    rw [lap] at h
    refine Ev.step (fun k => spec_LayRow.l3.eq_2 _ _ _ _ _ _ _) (Ev.ite_pos (ge0 _) (Ev.ite_pos (ge0 _) (Ev.ite_pos (by omega) ?_)))
    rw [w64b (x := (d : Int) - 1) (by omega) (by omega), w64b (x := (rd_T43 L d).f0) (by omega) (by omega)]
    by_cases c1 : (n : Int) < rd c d
    · rw [if_pos c1] at h
      refine Ev.ite_pos c1 (Ev.ite_pos (by omega) (Ev.ite_pos (by omega) (ih (by omega) _ (by rw [List.length_append, List.length_singleton]; omega) ?_)))
      rw [List.append_assoc]
      exact h
    · rw [if_neg c1] at h
      exact Ev.ite_neg c1 (ih (by omega) _ (by omega) h)
theorem laps_ref (L : List S43) (c : List Int) (most : Int) (hok : Ly.ok L c) (hm : most ≤ 60) : ∀ (d n : Nat), (n : Int) + d = most → ∀ out : List Int, out.length ≤ 6 * n →
    Ev (fun k => spec_LayRow.l2 k L c out most (n : Int)) (out ++ lapsR L c d n, 0) := by
  have h6 := hok.2.1
  have h0 := hok.1
  intro d
  induction d with
  | zero =>
    intro n hn out ho
    rw [lapsR, List.append_nil]
    exact Ev.step (fun k => spec_LayRow.l2.eq_2 _ _ _ _ _ _) (Ev.ite_neg (by omega) (Ev.now _))
  | succ d ih =>
    intro n hn out ho
    have hl := lap_len L c (n : Int) L.length
    refine Ev.step (fun k => spec_LayRow.l2.eq_2 _ _ _ _ _ _) (Ev.ite_pos (by omega) ?_)
    rw [w64b (x := (L.length : Int) - 1) (by omega) (by omega)]
    refine lap_ref L c most hok n _ L.length (Nat.le_refl _) out (by omega) ?_
    rw [w64b (x := (n : Int) + 1) (by omega) (by omega), lapsR, show (n : Int) + 1 = ((n + 1 : Nat) : Int) by omega]
    have h := ih (n + 1) (by omega) (out ++ lap L c (n : Int) L.length) (by rw [List.length_append]; omega)
    rw [List.append_assoc] at h
    exact h
theorem most_ref (L : List S43) (c : List Int) (hok : Ly.ok L c) (hc : allIn c = true) : ∀ (d i : Nat), i + d = c.length → (∀ j, j < i → Ly.big L c j = false) →
    Ev (fun k => spec_LayRow.l1 k L c [] ((c.take i).foldl (fun m x => if m > x then m else x) 0) (i : Int)) (if (List.range c.length).any (Ly.big L c) = true then ([], 4) else (lapsR L c (mostOf c).toNat 0, 0)) := by
  have hlc := hok.2.2.1
  have h6 := hok.2.1
  intro d
  induction d with
  | zero =>
    intro i hi hno
    obtain rfl : i = c.length := by omega
    rw [List.take_length, if_neg (by
      intro e
      obtain ⟨j, hj, hb⟩ := List.any_eq_true.1 e
      rw [hno j (List.mem_range.1 hj)] at hb
      cases hb)]
    obtain ⟨m0, m1, m2, m3⟩ := most_in hc
    exact Ev.step (fun k => spec_LayRow.l1.eq_2 _ _ _ _ _ _) (Ev.ite_neg (by omega) (laps_ref L c (mostOf c) hok m1 (mostOf c).toNat 0 (by omega) [] (Nat.zero_le _)))
  | succ d ih =>
    intro i hi hno
    have hlt : i < c.length := by omega
    obtain ⟨b1, b2, b3, b4⟩ := Ly.rd_ok hok i (by omega)
    refine Ev.step (fun k => spec_LayRow.l1.eq_2 _ _ _ _ _ _) (Ev.ite_pos (by omega) (Ev.ite_pos (ge0 _) (Ev.ite_pos (by omega) ?_)))
    rw [w64b (x := (rd_T43 L i).f1) (by omega) (by omega)]
    have hbig : Ly.big L c i = decide ((rd_T43 L i).f1 < rd c i) := rfl
    by_cases hb : (rd_T43 L i).f1 < rd c i
    · rw [if_pos (List.any_eq_true.2 ⟨i, List.mem_range.2 hlt, by rw [hbig]; exact decide_eq_true hb⟩)]
      exact Ev.ite_pos hb (Ev.now _)
    · have hmx : spec_l00Max.f ((c.take i).foldl (fun m x => if m > x then m else x) 0) (rd c i) = some ((c.take (i + 1)).foldl (fun m x => if m > x then m else x) 0) := by
        rw [List.take_succ_eq_append_getElem hlt, List.foldl_append, ← rd_get' hlt]
        unfold spec_l00Max.f
        show _ = some (if _ > _ then _ else _)
        split <;> rfl
      refine Ev.ite_neg hb (Ev.call hmx ?_)
      rw [w64b (x := (i : Int) + 1) (by omega) (by omega), show (i : Int) + 1 = ((i + 1 : Nat) : Int) by omega]
      refine ih (i + 1) (by omega) fun j hj => ?_
      rcases Nat.lt_or_ge j i with h1 | h1
      · exact hno j h1
      · obtain rfl : j = i := by omega
        rw [hbig]
        exact decide_eq_false hb
theorem fine_ref (L : List S43) (c : List Int) (h : L.length ≤ 1048576) (h2 : c.length ≤ 1048576) (r : List Int × Int) : ∀ (d i : Nat) (x : Bool), i + d = c.length →
    Ev (fun k => (spec_l03Asked.f k L (x && allIn (c.drop i))).bind fun t135 => (if t135 = 0 then (spec_LayRow.l1 k L c [] 0 0) else (some ([], t135)))) r → Ev (fun k => spec_LayRow.l0 k L c [] x (i : Int)) r := by
  intro d
  induction d with
  | zero =>
    intro i x hi h
    rw [List.drop_eq_nil_of_le (by omega), show allIn [] = true from rfl, Bool.and_true] at h
    exact Ev.step (fun k => spec_LayRow.l0.eq_2 _ _ _ _ _ _) (Ev.ite_neg (by omega) h)
  | succ d ih =>
    intro i x hi h
    have hlt : i < c.length := by omega
    have e : allIn (c.drop i) = (inB (rd c (i : Int)) 0 60 && allIn (c.drop (i + 1))) := by
      rw [List.drop_eq_getElem_cons hlt, rd_get' hlt]
      rfl
    rw [e] at h
    refine Ev.step (fun k => spec_LayRow.l0.eq_2 _ _ _ _ _ _) (Ev.ite_pos (by omega) ?_)
    rw [w64b (x := (i : Int) + 1) (by omega) (by omega), show (i : Int) + 1 = ((i + 1 : Nat) : Int) by omega]
    by_cases hx : x = true
    · subst hx
      refine Ev.ite_pos rfl (Ev.ite_pos (ge0 _) (Ev.call (l00In_val _ _ _) (ih (i + 1) _ (by omega) ?_)))
      rw [Bool.true_and] at h
      exact h
    · obtain rfl : x = false := by simpa using hx
      refine Ev.ite_neg (by decide) (ih (i + 1) _ (by omega) ?_)
      rw [Bool.false_and] at h ⊢
      exact h
theorem specLayRow (L : List S43) (c : List Int) (h : L.length ≤ 1048576) (h2 : c.length ≤ 1048576) (hw : ∀ s ∈ L, wrap64 s.f0 = s.f0 ∧ wrap64 s.f1 = s.f1) : Ev (fun k => spec_LayRow.f k L c) (layRowR L c) := by
  unfold spec_LayRow.f
  have hd : ((c.length : Int) == (L.length : Int)) = decide (c.length = L.length) := by
    by_cases e : c.length = L.length
    · simp [e]
    · simp [e]
      omega
  rw [hd]
  refine fine_ref L c h h2 _ c.length 0 _ (by omega) ?_
  rw [List.drop_zero]
  refine Ev.bind (asked_val L _ h) ?_
  unfold layRowR
  by_cases hv : settsB L = true
  · rw [if_pos hv, if_pos hv]
    by_cases hf : (decide (c.length = L.length) && allIn c) = true
    · rw [if_pos hf, if_pos hf]
      rw [Bool.and_eq_true, decide_eq_true_eq] at hf
      exact Ev.ite_pos rfl (most_ref L c (ok_of hw hv hf.1 hf.2) hf.2 c.length 0 (by omega) (fun j hj => absurd hj (by omega)))
    · rw [if_neg hf, if_neg hf]
      exact Ev.ite_neg (by decide) (Ev.now _)
  · rw [if_neg hv, if_neg hv]
    exact Ev.ite_neg (by decide) (Ev.now _)
theorem layRowR_len {L : List S43} {c : List Int} : (layRowR L c).1.length ≤ 1048576 := by
  unfold layRowR
  split
  · rename_i hv
    split
    · rename_i hf
      split
      · simp
      · rw [Bool.and_eq_true] at hf
        obtain ⟨m0, m1, -⟩ := most_in hf.2
        obtain ⟨n0, n1⟩ := inB_iff.1 (loopV_all L.length 0 hv).1
        have h1 := lapsR_len L c (mostOf c).toNat 0
        have h2 : (mostOf c).toNat * L.length ≤ 60 * 6 := Nat.mul_le_mul (show (mostOf c).toNat ≤ 60 by omega) (show L.length ≤ 6 by omega)
        show (lapsR L c (mostOf c).toNat 0).length ≤ 1048576
        omega
    · simp
  · simp
theorem pure_FnExactLayRow : Pure.FnExactLayRow := by
  rintro l c ⟨hl, hwf⟩ ⟨hcl, -⟩
  unfold maxLen at hl hcl
  refine Ev.rounds (g := fun k => laws_FnExactLayRow.f k l c) ?_
  unfold laws_FnExactLayRow.f
  by_cases hc : (c.length : Int) > 1048576
  · exact Ev.ite_pos hc (Ev.now _)
  · refine Ev.ite_neg hc (Ev.call (szSetts l _ hl (by omega) (by omega)) ?_)
    by_cases h : (1048576 : Int) < l.length
    · rw [if_pos h]
      exact Ev.ite_pos (by decide) (Ev.now _)
    · rw [if_neg h]
      have hlen := layRowR_len (L := l.map settOf) (c := c)
      have hw := setts_wrap hwf
      have hS := specLayRow (l.map settOf) c (by simp; omega) (by omega) hw
      have hI := implLayRow (l.map settOf) c (by simp; omega) (by omega) hw
      generalize layRowR (l.map settOf) c = R at *
      obtain ⟨l', hm⟩ := markSetts (l.map settOf) (by simp; omega)
      rw [List.length_map] at hm
      have hm2 := markFrom c (1 + 2 * (l.length : Int)) (by omega) (by omega) (by omega)
      refine Ev.ite_neg (by omega) (Ev.bind (toSetts l (by omega)) (Ev.bind (toInts c (by omega)) (Ev.bind hS (Ev.bind (toSetts l (by omega)) (Ev.bind (toInts c (by omega)) (Ev.bind hI (Ev.bind (eqInts _ (by omega)) (Ev.ite_pos rfl ?_))))))))
      rw [show (R.2 != R.2) = false by simp]
      refine Ev.step (fun k => laws_FnExactLayRow.j0.eq_2 _ _ _ _ _ _ _ _ _ _) (Ev.ite_neg (by decide) (Ev.bind (toSetts l (by omega)) (Ev.bind (eqSetts _ (by simp; omega)) (Ev.ite_pos rfl (Ev.bind (toInts c (by omega)) (Ev.bind (eqInts _ (by omega)) (Ev.ite_pos rfl (Ev.bind hm (Ev.bind hm2 (Ev.ite_neg (by show ¬ (1 + 2 * (l.length : Int) + (c.length : Int) < 0); omega) (Ev.bind (eqInts _ (by omega)) (Ev.ite_pos rfl ?_))))))))))))
      rw [show (R.2 != R.2) = false by simp]
      refine Ev.step (fun k => laws_FnExactLayRow.j1.eq_2 _ _ _ _ _ _ _) (Ev.ite_neg (by decide) (Ev.bind (markInts _ (by omega)) (Ev.bind (heldInts _ (by omega)) (Ev.ite_neg (by omega) (Ev.ite_pos rfl (Ev.bind (toSetts l (by omega)) (Ev.bind (toInts c (by omega)) (Ev.bind hI (Ev.bind (eqInts _ (by omega)) (Ev.ite_pos rfl ?_))))))))))
      rw [show (R.2 != R.2) = false by simp]
      exact Ev.step (fun k => laws_FnExactLayRow.j2.eq_2 _ _ _ _) (Ev.ite_neg (by decide) (Ev.bind (heldInts _ (by omega)) (Ev.ite_neg (by omega) (Ev.ite_pos rfl (Ev.now _)))))
end Go.Proofs.Ytnabkphkdkdigaa.Q
