/- The law on TwoBarrows answers true for every list of slabs; no condition. -/
import Derived.Test.YtpbobnpmiafbbaaQLawTwoBarrows
import Derived.Test.YtpbobnpmiafbbaaQOpn
import Derived.Test.YtpbobnpmiafbbaaQBWeigh
import Derived.Test.YtpbobnpmiafbbaaQBSlabM
import Derived.Test.YtpbobnpmiafbbaaQBInts
namespace Go.Proofs.Ytpbobnpmiafbbaa.Q
open Go.RowKit Go.Proofs.YtpbobnpmiafbbaaW.PrintWords Go.Proofs.YtpbobnpmiafbbaaW.PrintLast Go.Proofs.YtpbobnpmiafbbaaW.PrintMore
set_option linter.unusedVariables false
set_option linter.unusedSimpArgs false

def Pure.FnExactTwoBarrows : Prop := ∀ (x0 : List (S87)), (x0.length ≤ maxLen ∧ ∀ z_ ∈ x0, wf87 z_) → ∃ k, laws_FnExactTwoBarrows.f k x0 = some true

def heavyV (l : List Sl) : Int := if l.all (fun x => weigh x != 0) = true then (if l.length > 10 then 3 else 0) else 1
theorem specHeavy (l : List Sl) (h : l.length ≤ 1048576) : Ev (fun k => spec_l05Heavy.f k l) (heavyV l) := by
  unfold spec_l05Heavy.f heavyV
  have h0 := Ev.all (L := fun k i => spec_l05Heavy.l0 k l (i : Int)) l (fun x => weigh x != 0) (if l.length > 10 then 3 else 0) 1 ?_ ?_ ?_
  · exact h0
  · intro i hi hp r hr
    refine Ev.step (fun k => spec_l05Heavy.l0.eq_2 _ _ _) (Ev.ite_pos (by omega) (Ev.ite_pos (by omega) (Ev.call (specWeigh _) ?_)))
    rw [rdI_get hi, w64_succ (by omega)]
    exact Ev.ite_neg (by simpa using hp) hr
  · intro i hi hp
    refine Ev.step (fun k => spec_l05Heavy.l0.eq_2 _ _ _) (Ev.ite_pos (by omega) (Ev.ite_pos (by omega) (Ev.call (specWeigh _) ?_)))
    rw [rdI_get hi]
    exact Ev.ite_pos (by simpa using hp) (Ev.now _)
  · refine Ev.step (fun k => spec_l05Heavy.l0.eq_2 _ _ _) (Ev.ite_neg (by omega) ?_)
    by_cases hc : l.length > 10
    · rw [if_pos hc]
      exact Ev.ite_pos (by omega) (Ev.now _)
    · rw [if_neg hc]
      exact Ev.ite_neg (by omega) (Ev.now _)
theorem idx_val (ws : List Int) (x : Int) (h : ws.length ≤ 1048576) : Ev (fun k => slices_Index_int64_int64.f k ws x) (findFrom (fun y => decide (x = y)) 0 ws) := by
  unfold slices_Index_int64_int64.f
  refine Ev.find (L := fun k i => slices_Index_int64_int64.l0 k ws x (ws.length : Int) (i : Int)) ws (fun y => decide (x = y)) ?_ ?_ ?_
  · intro i hi hp r hr
    refine Ev.step (fun k => slices_Index_int64_int64.l0.eq_2 _ _ _ _ _) (Ev.ite_pos (by omega) (Ev.ite_pos (by omega) (Ev.ite_pos (by omega) ?_)))
    rw [rd_get hi, w64_succ (by omega)]
    exact Ev.ite_neg (by simpa using hp) hr
  · intro i hi hp
    refine Ev.step (fun k => slices_Index_int64_int64.l0.eq_2 _ _ _ _ _) (Ev.ite_pos (by omega) (Ev.ite_pos (by omega) (Ev.ite_pos (by omega) ?_)))
    rw [rd_get hi]
    exact Ev.ite_pos (by simpa using hp) (Ev.now _)
  · exact Ev.step (fun k => slices_Index_int64_int64.l0.eq_2 _ _ _ _ _) (Ev.ite_neg (by omega) (Ev.now _))
theorem contains_val (ws : List Int) (x : Int) (h : ws.length ≤ 1048576) : Ev (fun k => slices_Contains_int64_int64.f k ws x) (ws.any fun y => decide (x = y)) := by
  unfold slices_Contains_int64_int64.f
  refine Ev.bind (idx_val ws x h) (Ev.eq_ (Ev.now _) (findFrom_ge _ ws 0))
theorem unless_v (b : Bool) (c : Int) : impl_unless.f b c = some (if b = true then 0 else c) := by
  unfold impl_unless.f
  split <;> rfl
def weightsR (l : List Sl) : List Int × Int := if heavyV l = 1 then ([], 1) else (l.map weigh, heavyV l)
theorem all_weigh (l : List Sl) : (l.map weigh).any (fun y => decide (0 = y)) = !l.all (fun x => weigh x != 0) := by
  induction l with
  | nil => rfl
  | cons x xs ih =>
    rw [List.map_cons, List.any_cons, List.all_cons, ih, Bool.not_and]
    congr 1
    by_cases h : weigh x = 0
    · simp [h]
    · simp [h, Ne.symm h]
theorem implWeights (l : List Sl) (h : l.length ≤ 1048576) : Ev (fun k => impl_weights.f k l) (weightsR l) := by
  unfold impl_weights.f
  refine Ev.run (L := fun k s (i : Nat) => impl_weights.l0 k l s l (l.length : Int) i) l.length (fun i s => s ++ [weigh (rd_T84 l (i : Int))]) (fun i s => s = (l.map weigh).take i) (weightsR l) ?_ ?_ (d := l.length) (i := 0) (by omega) (by simp)
  · rintro i s hi rfl
    have hlm : (l.map weigh).length = l.length := by simp
    refine ⟨?_, fun r hr => Ev.step (fun k => impl_weights.l0.eq_2 _ _ _ _ _ _) ?_⟩
    · rw [List.take_succ_eq_append_getElem (by omega), rdI_get hi]
      simp
    · refine Ev.ite_pos (by omega) (Ev.ite_pos (by omega) (Ev.ite_pos (by omega) (Ev.call (implWeigh _) (Ev.ite_pos (by rw [List.length_take]; omega) ?_))))
      rw [w64_succ (by omega)]
      exact hr
  · rintro s rfl
    rw [List.take_of_length_le (by simp)]
    refine Ev.step (fun k => impl_weights.l0.eq_2 _ _ _ _ _ _) (Ev.ite_neg (by omega) (Ev.bind (contains_val _ 0 (by simp; omega)) ?_))
    rw [all_weigh]
    by_cases ha : l.all (fun x => weigh x != 0) = true
    · have eh : heavyV l = if l.length > 10 then 3 else 0 := if_pos ha
      rw [ha]
      refine Ev.ite_neg (by decide) (Ev.call (unless_v _ _) (Ev.eq_ (Ev.now _) ?_))
      unfold weightsR
      rw [eh]
      by_cases h10 : l.length > 10
      · rw [if_pos h10, if_neg (by simp; omega), if_neg (by decide)]
      · rw [if_neg h10, if_pos (by simp; omega), if_neg (by decide)]
    · have ha' : l.all (fun x => weigh x != 0) = false := by simpa using ha
      have eh : heavyV l = 1 := if_neg ha
      rw [ha']
      unfold weightsR
      rw [if_pos eh]
      exact Ev.ite_pos rfl (Ev.now _)
theorem heavy_cases (l : List Sl) : heavyV l = 0 ∨ heavyV l = 1 ∨ heavyV l = 3 := by
  unfold heavyV
  split
  · split <;> simp
  · simp

/-! the two barrows -/
theorem u64w (n : Nat) (h : n ≤ 1048576) : IntKind.u64.wrap (n : Int) = (n : Int) := by
  simp [IntKind.wrap, IntKind.bits, IntKind.signed]
  omega
theorem shl_le (n : Int) : shl .i64 1 n ≤ 9223372036854775807 := by
  unfold shl
  generalize (1 : Int) * 2 ^ min n.toNat IntKind.i64.bits = z
  rw [IntKind.wrap_i64]
  omega
theorem and_one_ (i : Int) (h0 : 0 ≤ i) (hi : i < 9223372036854775808) : Go.bits .and .i64 i 1 = i % 2 := by
  have e63 : (2 : Int) ^ 63 = 9223372036854775808 := by decide
  have h := Go.bits_mask .i64 63 (by decide) (fun n h0 h1 => by rw [e63] at h1; rw [IntKind.wrap_i64]; omega) 1 (by decide) i h0 (by rw [e63]; omega)
  have e : ((2 : Int) ^ 1 - 1) = 1 := by decide
  rw [e] at h
  rw [h]
  omega
/-- The barrow of slab i of n, in a set. -/
def barT (n : Nat) (x : Int) (i : Nat) : Int := x / 2 ^ (n - 1 - i) % 2
theorem barT_lo (n : Nat) (x : Int) (i : Nat) : 0 ≤ barT n x i ∧ barT n x i < 2 := by unfold barT; omega
theorem shr_div (n i : Nat) (x : Int) (hi : i < n) (hn : n ≤ 10) (h0 : 0 ≤ x) (h1 : x < 9223372036854775807) : shr .i64 x ((n - 1 - i : Nat) : Int) = x / 2 ^ (n - 1 - i) ∧ 0 ≤ x / 2 ^ (n - 1 - i) ∧ x / 2 ^ (n - 1 - i) < 9223372036854775808 := by
  have e : min ((n - 1 - i : Nat) : Int).toNat IntKind.i64.bits = n - 1 - i := by
    have eb : IntKind.i64.bits = 64 := rfl
    rw [Int.toNat_natCast, eb]
    omega
  refine ⟨by unfold shr; rw [e], Int.ediv_nonneg h0 (Int.le_of_lt (Int.pow_pos (by decide))), ?_⟩
  have h2 : x / 2 ^ (n - 1 - i) ≤ x := Int.ediv_le_self _ h0
  omega
theorem implBar (n i : Nat) (x : Int) (hi : i < n) (hn : n ≤ 10) (h0 : 0 ≤ x) (h1 : x < 9223372036854775807) : Go.bits .and .i64 (shr .i64 x ((n - 1 - i : Nat) : Int)) 1 = barT n x i := by
  obtain ⟨e, a, b⟩ := shr_div n i x hi hn h0 h1
  rw [e, and_one_ _ a b]
  rfl
theorem specBar (n i : Nat) (x : Int) (hi : i < n) (hn : n ≤ 10) (h0 : 0 ≤ x) (h1 : x < 9223372036854775807) : Int.tmod (shr .i64 x ((n - 1 - i : Nat) : Int)) 2 = barT n x i := by
  obtain ⟨e, a, b⟩ := shr_div n i x hi hn h0 h1
  rw [e, Int.tmod_eq_emod_of_nonneg a]
  rfl
def barF (ws : List Int) (x : Int) : Nat → List Int × List Int
  | 0 => ([], arrZ 2)
  | i + 1 => ((barF ws x i).1 ++ [barT ws.length x i], (barF ws x i).2.set (barT ws.length x i).toNat (wrap64 (rd (barF ws x i).2 (barT ws.length x i) + rd ws (i : Int))))
theorem barF_len (ws : List Int) (x : Int) : ∀ i, (barF ws x i).1.length = i ∧ (barF ws x i).2.length = 2
  | 0 => ⟨rfl, arrZ_length 2⟩
  | i + 1 => by
    obtain ⟨h1, h2⟩ := barF_len ws x i
    unfold barF
    exact ⟨by simp [h1], by simp [h2]⟩
def mostF (ws : List Int) (x : Int) : Int := mx (rd (barF ws x ws.length).2 0) (rd (barF ws x ws.length).2 1)
def twoF (ws : List Int) : Nat → Int → List Int × Int → List Int × Int
  | 0, _, s => s
  | d + 1, x, s => twoF ws d (x + 1) (if s.2 < 0 ∨ mostF ws x < s.2 then ((barF ws x ws.length).1, mostF ws x) else s)
theorem twoF_len (ws : List Int) : ∀ (d : Nat) (x : Int) (s : List Int × Int), s.1.length ≤ ws.length → (twoF ws d x s).1.length ≤ ws.length
  | 0, _, s, h => h
  | d + 1, x, s, h => by
    unfold twoF
    refine twoF_len ws d _ _ ?_
    split
    · exact Nat.le_of_eq (barF_len ws x ws.length).1
    · exact h
theorem idx_w (n i : Nat) (hi : i < n) (hn : n ≤ 10) : wrap64 (wrap64 ((n : Int) - 1) - (i : Int)) = ((n - 1 - i : Nat) : Int) := by
  rw [w64 (x := (n : Int) - 1) (by omega) (by omega), w64 (by omega) (by omega)]
  omega
theorem implTwoIn (ws : List Int) (hn : ws.length ≤ 10) (best : List Int) (least S x : Int) (h0 : 0 ≤ x) (h1 : x < 9223372036854775807) (r : List Int × Int × Int)
    (h : Ev (fun k => impl_TwoBarrows.l0 k ws (if least < 0 ∨ mostF ws x < least then ((barF ws x ws.length).1, mostF ws x) else (best, least)).1 (if least < 0 ∨ mostF ws x < least then ((barF ws x ws.length).1, mostF ws x) else (best, least)).2 S (wrap64 (x + 1))) r) :
    Ev (fun k => impl_TwoBarrows.l1 k ws best least x [] S x ws (ws.length : Int) 0 (arrZ 2)) r := by
  have key : ∀ (d i : Nat), i + d = ws.length → Ev (fun k => impl_TwoBarrows.l1 k ws best least x (barF ws x i).1 S x ws (ws.length : Int) (i : Int) (barF ws x i).2) r := by
    intro d
    induction d with
    | zero =>
      intro i hi
      obtain rfl : i = ws.length := by omega
      obtain ⟨l1, l2⟩ := barF_len ws x ws.length
      refine Ev.step (fun k => impl_TwoBarrows.l1.eq_2 _ _ _ _ _ _ _ _ _ _ _ _) (Ev.ite_neg (by omega) (Ev.ite_pos (by decide) (Ev.ite_pos (by omega) (Ev.ite_pos (by decide) (Ev.ite_pos (by omega) ?_)))))
      by_cases c : least < 0
      · rw [if_pos (.inl c)] at h
        exact Ev.ite_pos c h
      · by_cases c2 : mostF ws x < least
        · rw [if_pos (.inr c2)] at h
          exact Ev.ite_neg c (Ev.ite_pos c2 h)
        · rw [if_neg (by rintro (z | z) <;> contradiction)] at h
          exact Ev.ite_neg c (Ev.ite_neg c2 h)
    | succ d ih =>
      intro i hi
      have hb := barT_lo ws.length x i
      obtain ⟨l1, l2⟩ := barF_len ws x i
      refine Ev.step (fun k => impl_TwoBarrows.l1.eq_2 _ _ _ _ _ _ _ _ _ _ _ _) ?_
      rw [idx_w ws.length i (by omega) hn, implBar ws.length i x (by omega) hn h0 h1, w64_succ (by omega)]
      exact Ev.ite_pos (by omega) (Ev.ite_pos (by omega) (Ev.ite_pos (by omega) (Ev.ite_pos (by omega) (Ev.ite_pos (by omega) (Ev.ite_pos (by omega) (Ev.ite_pos (by omega) (Ev.ite_pos (by omega) (ih (i + 1) (by omega)))))))))
  exact key ws.length 0 (by omega)
theorem implTwo (ws : List Int) (hn : ws.length ≤ 10) (S : Int) (hS : S ≤ 9223372036854775807) : ∀ (d : Nat) (x : Int) (s : List Int × Int), 0 ≤ x → (S - x).toNat = d → Ev (fun k => impl_TwoBarrows.l0 k ws s.1 s.2 S x) ((twoF ws d x s).1, (twoF ws d x s).2, 0) := by
  intro d
  induction d with
  | zero =>
    intro x s h0 hd
    exact Ev.step (fun k => impl_TwoBarrows.l0.eq_2 _ _ _ _ _ _) (Ev.ite_neg (by omega) (Ev.now _))
  | succ d ih =>
    intro x s h0 hd
    have ew : wrap64 (x + 1) = x + 1 := w64 (by omega) (by omega)
    refine Ev.step (fun k => impl_TwoBarrows.l0.eq_2 _ _ _ _ _ _) (Ev.ite_pos (by omega) (implTwoIn ws hn s.1 s.2 S x h0 (by omega) _ ?_))
    rw [ew]
    exact ih (x + 1) _ (by omega) (by omega)
theorem specTwoIn (l : List Sl) (hn : l.length ≤ 10) (best : List Int) (least x : Int) (h0 : 0 ≤ x) (h1 : x < 9223372036854775807) (r : List Int × Int × Int)
    (h : Ev (fun k => spec_TwoBarrows.l0 k l (if least < 0 ∨ mostF (l.map weigh) x < least then ((barF (l.map weigh) x (l.map weigh).length).1, mostF (l.map weigh) x) else (best, least)).1 (if least < 0 ∨ mostF (l.map weigh) x < least then ((barF (l.map weigh) x (l.map weigh).length).1, mostF (l.map weigh) x) else (best, least)).2 (l.length : Int) (wrap64 (x + 1))) r) :
    Ev (fun k => spec_TwoBarrows.l1 k l best least (l.length : Int) x [] 0 (arrZ 2)) r := by
  have hlm : (l.map weigh).length = l.length := by simp
  generalize ews : l.map weigh = ws at *
  have key : ∀ (d i : Nat), i + d = l.length → Ev (fun k => spec_TwoBarrows.l1 k l best least (l.length : Int) x (barF ws x i).1 (i : Int) (barF ws x i).2) r := by
    intro d
    induction d with
    | zero =>
      intro i hi
      obtain rfl : i = ws.length := by omega
      obtain ⟨l1, l2⟩ := barF_len ws x ws.length
      have em : spec_l00Max.f (rd (barF ws x ws.length).2 0) (rd (barF ws x ws.length).2 1) = some (mostF ws x) := by
        unfold mostF
        generalize rd (barF ws x ws.length).2 0 = a
        generalize rd (barF ws x ws.length).2 1 = b
        unfold spec_l00Max.f mx
        by_cases h : a > b
        · rw [if_pos h, if_neg (by omega)]
        · rw [if_neg h]
          by_cases h2 : a < b
          · rw [if_pos h2]
          · rw [if_neg h2, show b = a by omega]
      refine Ev.step (fun k => spec_TwoBarrows.l1.eq_2 _ _ _ _ _ _ _ _ _) (Ev.ite_neg (by omega) (Ev.ite_pos (by decide) (Ev.ite_pos (by omega) (Ev.ite_pos (by decide) (Ev.ite_pos (by omega) (Ev.call em ?_))))))
      by_cases c : least < 0
      · rw [if_pos (.inl c)] at h
        exact Ev.ite_pos c h
      · by_cases c2 : mostF ws x < least
        · rw [if_pos (.inr c2)] at h
          exact Ev.ite_neg c (Ev.ite_pos c2 h)
        · rw [if_neg (by rintro (z | z) <;> contradiction)] at h
          exact Ev.ite_neg c (Ev.ite_neg c2 h)
    | succ d ih =>
      intro i hi
      have hb := barT_lo ws.length x i
      obtain ⟨l1, l2⟩ := barF_len ws x i
      have hw : rd ws (i : Int) = weigh (rd_T84 l (i : Int)) := by
        rw [rdI_get (by omega), rd_get (by omega)]
        subst ews
        simp
      refine Ev.step (fun k => spec_TwoBarrows.l1.eq_2 _ _ _ _ _ _ _ _ _) ?_
      rw [idx_w l.length i (by omega) hn, u64w _ (by omega), ← hlm, specBar ws.length i x (by omega) (by omega) h0 h1, w64_succ (by omega)]
      refine Ev.ite_pos (by omega) (Ev.ite_pos (by omega) (Ev.ite_pos (by omega) (Ev.ite_pos (by omega) (Ev.ite_pos (by omega) (Ev.ite_pos (by omega) (Ev.ite_pos (by omega) (Ev.call (specWeigh _) (Ev.ite_pos (by omega) ?_))))))))
      have h2 := ih (i + 1) (by omega)
      rw [← hlm] at h2
      unfold barF at h2
      rw [hw] at h2
      exact h2
  exact key l.length 0 (by omega)
theorem specTwo (l : List Sl) (hn : l.length ≤ 10) : ∀ (d : Nat) (x : Int) (s : List Int × Int), 0 ≤ x → (shl .i64 1 (l.length : Int) - x).toNat = d → Ev (fun k => spec_TwoBarrows.l0 k l s.1 s.2 (l.length : Int) x) ((twoF (l.map weigh) d x s).1, (twoF (l.map weigh) d x s).2, 0) := by
  have hS := shl_le (l.length : Int)
  intro d
  induction d with
  | zero =>
    intro x s h0 hd
    refine Ev.step (fun k => spec_TwoBarrows.l0.eq_2 _ _ _ _ _ _) ?_
    rw [u64w _ (by omega)]
    exact Ev.ite_pos (by omega) (Ev.ite_neg (by omega) (Ev.now _))
  | succ d ih =>
    intro x s h0 hd
    have ew : wrap64 (x + 1) = x + 1 := w64 (by omega) (by omega)
    refine Ev.step (fun k => spec_TwoBarrows.l0.eq_2 _ _ _ _ _ _) ?_
    rw [u64w _ (by omega)]
    refine Ev.ite_pos (by omega) (Ev.ite_pos (by omega) (specTwoIn l hn s.1 s.2 x h0 (by omega) _ ?_))
    rw [ew]
    exact ih (x + 1) _ (by omega) (by omega)
def twoR (l : List Sl) : List Int × Int × Int := if heavyV l = 0 then ((twoF (l.map weigh) (shl .i64 1 (l.length : Int) - 0).toNat 0 ([], -1)).1, (twoF (l.map weigh) (shl .i64 1 (l.length : Int) - 0).toNat 0 ([], -1)).2, 0) else ([], 0, heavyV l)
theorem heavy_len {l : List Sl} (h : heavyV l = 0) : l.length ≤ 10 := by
  unfold heavyV at h
  by_cases a : l.all (fun x => weigh x != 0) = true
  · rw [if_pos a] at h
    by_cases b : l.length > 10
    · rw [if_pos b] at h; cases h
    · omega
  · rw [if_neg a] at h; cases h
theorem twoR_len (l : List Sl) : (twoR l).1.length ≤ 10 := by
  unfold twoR
  by_cases h : heavyV l = 0
  · rw [if_pos h]
    have h1 := twoF_len (l.map weigh) (shl .i64 1 (l.length : Int) - 0).toNat 0 ([], -1) (Nat.zero_le _)
    have h2 := heavy_len h
    have h3 : (l.map weigh).length = l.length := by simp
    show (twoF _ _ _ _).1.length ≤ 10
    omega
  · rw [if_neg h]; exact Nat.zero_le _
theorem specTwoB (l : List Sl) (h : l.length ≤ 1048576) : Ev (fun k => spec_TwoBarrows.f k l) (twoR l) := by
  unfold spec_TwoBarrows.f twoR
  refine Ev.bind (specHeavy l h) ?_
  by_cases c : heavyV l = 0
  · refine Ev.ite_pos c (Ev.eq_ ?_ (if_pos c).symm)
    exact specTwo l (heavy_len c) _ 0 ([], -1) (by omega) rfl
  · exact Ev.ite_neg c (Ev.eq_ (Ev.now _) (if_neg c).symm)
theorem implTwoB (l : List Sl) (h : l.length ≤ 1048576) : Ev (fun k => impl_TwoBarrows.f k l) (twoR l) := by
  unfold impl_TwoBarrows.f twoR
  refine Ev.bind (implWeights l h) ?_
  have hlm : (l.map weigh).length = l.length := by simp
  by_cases c : heavyV l = 0
  · have e : weightsR l = (l.map weigh, 0) := by
      unfold weightsR
      rw [c]
      simp
    rw [e]
    refine Ev.ite_pos rfl (Ev.eq_ ?_ (if_pos c).symm)
    show Ev (fun k => impl_TwoBarrows.l0 k (l.map weigh) [] (-1) (shl .i64 1 ((l.map weigh).length : Int)) 0) _
    rw [hlm]
    exact implTwo (l.map weigh) (by have := heavy_len c; omega) _ (shl_le _) _ 0 ([], -1) (by omega) rfl
  · have e : (weightsR l).2 = heavyV l := by
      unfold weightsR
      rcases heavy_cases l with z | z | z
      · exact absurd z c
      · rw [z]; rfl
      · rw [z]; rfl
    rw [e]
    exact Ev.ite_neg c (Ev.eq_ (Ev.now _) (if_neg c).symm)
theorem pure_FnExactTwoBarrows : Pure.FnExactTwoBarrows := by
  rintro l ⟨hl, -⟩
  unfold maxLen at hl
  refine Ev.rounds (g := fun k => laws_FnExactTwoBarrows.f k l) ?_
  unfold laws_FnExactTwoBarrows.f
  refine Ev.call (szSlabs l _ hl (by omega) (by omega)) ?_
  by_cases h : (1048576 : Int) < l.length
  · rw [if_pos h]
    exact Ev.ite_pos (by decide) (Ev.now _)
  · rw [if_neg h]
    have hlm : (l.map slabOf).length = l.length := by simp
    have hlen := twoR_len (l.map slabOf)
    have hS := specTwoB (l.map slabOf) (by omega)
    have hI := implTwoB (l.map slabOf) (by omega)
    generalize twoR (l.map slabOf) = R at *
    refine Ev.ite_neg (by omega) (Ev.bind (toSlabs l (by omega)) (Ev.bind hS (Ev.bind (toSlabs l (by omega)) (Ev.bind hI (Ev.bind (eqInts _ (by omega)) (Ev.ite_pos rfl (Ev.ite_pos rfl ?_)))))))
    rw [show (R.2.2 != R.2.2) = false by simp]
    refine Ev.step (fun k => laws_FnExactTwoBarrows.j0.eq_2 _ _ _ _ _ _ _ _ _ _) (Ev.ite_neg (by decide) (Ev.bind (toSlabs l (by omega)) (Ev.bind (eqSlabs _ (by omega)) (Ev.ite_pos rfl (Ev.bind (markSlabs _ (by omega)) (Ev.ite_neg (by show ¬ (1 + 4 * (((l.map slabOf).length : Nat) : Int) < 0); omega) (Ev.bind (eqInts _ (by omega)) (Ev.ite_pos rfl (Ev.ite_pos rfl ?_)))))))))
    rw [show (R.2.2 != R.2.2) = false by simp]
    refine Ev.step (fun k => laws_FnExactTwoBarrows.j1.eq_2 _ _ _ _ _ _ _) (Ev.ite_neg (by decide) (Ev.bind (markInts _ (by omega)) (Ev.bind (heldInts _ (by omega)) (Ev.ite_neg (by omega) (Ev.ite_pos rfl (Ev.bind (toSlabs l (by omega)) (Ev.bind hI (Ev.bind (eqInts _ (by omega)) (Ev.ite_pos rfl (Ev.ite_pos rfl ?_))))))))))
    rw [show (R.2.2 != R.2.2) = false by simp]
    exact Ev.step (fun k => laws_FnExactTwoBarrows.j2.eq_2 _ _ _ _) (Ev.ite_neg (by decide) (Ev.bind (heldInts _ (by omega)) (Ev.ite_neg (by omega) (Ev.ite_pos rfl (Ev.now _)))))
end Go.Proofs.Ytpbobnpmiafbbaa.Q
