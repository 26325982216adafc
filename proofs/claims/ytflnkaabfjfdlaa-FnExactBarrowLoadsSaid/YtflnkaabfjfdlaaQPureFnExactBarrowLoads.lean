/- The law on BarrowLoads answers true for every list of slabs and every number; no condition. -/
import Derived.Test.YtflnkaabfjfdlaaQLawBarrowLoads
import Derived.Test.YtflnkaabfjfdlaaQOpn
import Derived.Test.YtflnkaabfjfdlaaQBWeigh
import Derived.Test.YtflnkaabfjfdlaaQBSlabM
import Derived.Test.YtflnkaabfjfdlaaQBInts
namespace Go.Proofs.Ytflnkaabfjfdlaa.Q
open Go.RowKit Go.Proofs.YtflnkaabfjfdlaaW.PrintWords Go.Proofs.YtflnkaabfjfdlaaW.PrintLast Go.Proofs.YtflnkaabfjfdlaaW.PrintMore
set_option linter.unusedVariables false

def Pure.FnExactBarrowLoads : Prop := ∀ (x0 : List (S88)) (x1 : Int), (x0.length ≤ maxLen ∧ ∀ z_ ∈ x0, wf88 z_) → (Lit.int .i64 x1).wf = true → ∃ k, laws_FnExactBarrowLoads.f k x0 x1 = some true

def heavyV (l : List Sl) : Int := if l.all (fun x => weigh x != 0) = true then (if l.length > 10 then 3 else 0) else 1
def loadsV (l : List Sl) (a : Int) : Int := if heavyV l = 0 then (if inB a 1 600 = true then (if l.all (fun x => !decide (weigh x > a)) = true then 0 else 6) else 2) else heavyV l
theorem specHeavy (l : List Sl) (h : l.length ≤ 1048576) : Ev (fun k => spec_l05Heavy.f k l) (heavyV l) := by
  unfold spec_l05Heavy.f heavyV
  have h0 := Ev.all (L := fun k i => spec_l05Heavy.l0 k l (i : Int)) l (fun x => weigh x != 0) (if l.length > 10 then 3 else 0) 1 ?_ ?_ ?_
  · exact h0
  · intro i hi hp r hr
    refine Ev.step (fun k => spec_l05Heavy.l0.eq_2 _ _ _) (Ev.ite_pos (by omega) (Ev.ite_pos (by omega) (Ev.call (specWeigh _) ?_)))
    rw [rdI_get hi, w64_succ (by omega)]
    exact Ev.ite_neg (by simpa using hp) hr
  · intro i hi hp
    refine Ev.step (fun k => spec_l05Heavy.l0.eq_2 _ _ _) (Ev.ite_pos (by omega) (Ev.ite_pos (by omega) (Ev.call (specWeigh _) ?_)))
    rw [rdI_get hi]
    exact Ev.ite_pos (by simpa using hp) (Ev.now _)
  · refine Ev.step (fun k => spec_l05Heavy.l0.eq_2 _ _ _) (Ev.ite_neg (by omega) ?_)
    by_cases hc : l.length > 10
    · rw [if_pos hc]
      exact Ev.ite_pos (by omega) (Ev.now _)
    · rw [if_neg hc]
      exact Ev.ite_neg (by omega) (Ev.now _)
theorem specLoads (l : List Sl) (a : Int) (h : l.length ≤ 1048576) : Ev (fun k => spec_l05Loads.f k l a) (loadsV l a) := by
  unfold spec_l05Loads.f
  refine Ev.bind (specHeavy l h) ?_
  have stop : ∀ c : Int, c ≠ 0 → ∀ i : Nat, Ev (fun k => spec_l05Loads.l0 k l a c (i : Int)) c := by
    intro c hc i
    refine Ev.step (fun k => spec_l05Loads.l0.eq_2 _ _ _ _ _) ?_
    have hb : (c == 0) = false := by simpa using hc
    rw [hb]
    have hj : Ev (fun k => spec_l05Loads.j3 k l a c (i : Int) false) c := Ev.step (fun k => spec_l05Loads.j3.eq_2 _ _ _ _ _ _) (Ev.ite_neg (by decide) (Ev.now _))
    by_cases hi : (i : Int) < (l.length : Int)
    · exact Ev.ite_pos hi hj
    · exact Ev.ite_neg hi hj
  by_cases h0 : heavyV l = 0
  · rw [h0]
    refine Ev.ite_pos rfl (Ev.call (l00In_val _ _ _) ?_)
    unfold loadsV
    rw [if_pos h0]
    by_cases h1 : inB a 1 600 = true
    · rw [if_pos h1, h1]
      refine Ev.step (fun k => spec_l05Loads.j0.eq_2 _ _ _ _ _) (Ev.ite_neg (by decide) (Ev.step (fun k => spec_l05Loads.j1.eq_2 _ _ _ _) ?_))
      have h2 := Ev.all (L := fun k i => spec_l05Loads.l0 k l a 0 (i : Int)) l (fun x => !decide (weigh x > a)) 0 6 ?_ ?_ ?_
      · exact h2
      · intro i hi hp r hr
        refine Ev.step (fun k => spec_l05Loads.l0.eq_2 _ _ _ _ _) (Ev.ite_pos (by omega) ?_)
        refine Ev.step (fun k => spec_l05Loads.j3.eq_2 _ _ _ _ _ _) (Ev.ite_pos rfl (Ev.ite_pos (by omega) (Ev.ite_pos (by omega) (Ev.call (specWeigh _) ?_))))
        rw [rdI_get hi, w64_succ (by omega)]
        exact Ev.ite_neg (by simpa using hp) hr
      · intro i hi hp
        refine Ev.step (fun k => spec_l05Loads.l0.eq_2 _ _ _ _ _) (Ev.ite_pos (by omega) ?_)
        refine Ev.step (fun k => spec_l05Loads.j3.eq_2 _ _ _ _ _ _) (Ev.ite_pos rfl (Ev.ite_pos (by omega) (Ev.ite_pos (by omega) (Ev.call (specWeigh _) ?_))))
        rw [rdI_get hi, w64_succ (by omega)]
        exact Ev.ite_pos (by simpa using hp) (stop 6 (by decide) _)
      · refine Ev.step (fun k => spec_l05Loads.l0.eq_2 _ _ _ _ _) (Ev.ite_neg (by omega) ?_)
        exact Ev.step (fun k => spec_l05Loads.j3.eq_2 _ _ _ _ _ _) (Ev.ite_neg (by decide) (Ev.now _))
    · have h1' : inB a 1 600 = false := by simpa using h1
      rw [if_neg h1, h1']
      refine Ev.step (fun k => spec_l05Loads.j0.eq_2 _ _ _ _ _) (Ev.ite_pos rfl (Ev.step (fun k => spec_l05Loads.j1.eq_2 _ _ _ _) ?_))
      exact stop 2 (by decide) 0
  · refine Ev.ite_neg h0 ?_
    unfold loadsV
    rw [if_neg h0]
    refine Ev.step (fun k => spec_l05Loads.j0.eq_2 _ _ _ _ _) (Ev.ite_neg (by decide) (Ev.step (fun k => spec_l05Loads.j1.eq_2 _ _ _ _) ?_))
    exact stop _ h0 0
/-- The loads: the load that is being filled (-1: none), what it can still take. -/
def loadF (ws : List Int) (a : Int) (i : Nat) (s : List Int × Int × Int) : List Int × Int × Int :=
  if s.2.1 < 0 ∨ rd ws (i : Int) > s.2.2 then (s.1 ++ [s.2.1 + 1], s.2.1 + 1, a - rd ws (i : Int)) else (s.1 ++ [s.2.1], s.2.1, s.2.2 - rd ws (i : Int))
def loadsR (ws : List Int) (a : Int) : List Int × Int × Int := loopV (fun _ _ => true) (loadF ws a) (fun _ s => (s.1, s.2.1 + 1, 0)) (fun s => (s.1, s.2.1 + 1, 0)) ws.length 0 ([], -1, 0)
def fineI (ws : List Int) (a : Int) (i : Nat) (s : List Int × Int × Int) : Prop := s.1.length = i ∧ -1 ≤ s.2.1 ∧ s.2.1 < i ∧ 0 ≤ s.2.2 ∧ s.2.2 ≤ 600 ∧ (s.2.1 < 0 → s.2.2 = 0)
theorem fine_step {ws : List Int} {a : Int} (ha : 1 ≤ a ∧ a ≤ 600) (hw : ∀ i, i < ws.length → 1 ≤ rd ws (i : Int) ∧ rd ws (i : Int) ≤ a) {i : Nat} (hi : i < ws.length) {s : List Int × Int × Int} (h : fineI ws a i s) : fineI ws a (i + 1) (loadF ws a i s) := by
  obtain ⟨h1, h2, h3, h4, h5, h6⟩ := h
  have hw := hw i hi
  unfold loadF
  split
  · exact ⟨by simp [h1], by show -1 ≤ s.2.1 + 1; omega, by show s.2.1 + 1 < ((i + 1 : Nat) : Int); omega, by show 0 ≤ a - _; omega, by show a - _ ≤ 600; omega, fun h => by have h' : s.2.1 + 1 < 0 := h; omega⟩
  · rename_i hc
    have hc' : ¬ s.2.1 < 0 ∧ ¬ rd ws (i : Int) > s.2.2 := ⟨fun h => hc (Or.inl h), fun h => hc (Or.inr h)⟩
    exact ⟨by simp [h1], by show -1 ≤ s.2.1; omega, by show s.2.1 < ((i + 1 : Nat) : Int); omega, by show 0 ≤ s.2.2 - _; omega, by show s.2.2 - _ ≤ 600; omega, fun h => absurd h hc'.1⟩
theorem specRun (l : List Sl) (a : Int) (h : l.length ≤ 1048576) (ha : 1 ≤ a ∧ a ≤ 600) (hw : ∀ i, i < l.length → 1 ≤ rd (l.map weigh) (i : Int) ∧ rd (l.map weigh) (i : Int) ≤ a) : Ev (fun k => spec_BarrowLoads.l0 k l a [] (-1) 0 0) (loadsR (l.map weigh) a) := by
  have hlm : (l.map weigh).length = l.length := by simp
  unfold loadsR
  rw [hlm]
  refine Ev.loop (L := fun k s (i : Nat) => spec_BarrowLoads.l0 k l a s.1 s.2.1 s.2.2 i) l.length _ _ _ _ (fineI (l.map weigh) a) ?_ ?_ ?_ l.length 0 ([], -1, 0) (by omega) ⟨rfl, by decide, by decide, by decide, by decide, fun _ => rfl⟩
  · rintro i s hi hs _
    refine ⟨fine_step ha (fun j hj => hw j (by omega)) (by omega) hs, fun r hr => Ev.step (fun k => spec_BarrowLoads.l0.eq_2 _ _ _ _ _ _ _) ?_⟩
    obtain ⟨h1, h2, h3, h4, h5, h6⟩ := hs
    have hwi := hw i hi
    have er : weigh (rd_T85 l (i : Int)) = rd (l.map weigh) (i : Int) := by
      rw [rdI_get hi, rd_get (by omega)]
      simp
    refine Ev.ite_pos (by omega) (Ev.ite_pos (by omega) (Ev.call (specWeigh _) ?_))
    rw [er, w64_succ (by omega), w64 (x := s.2.1 + 1) (by omega) (by omega), w64 (x := a - rd (l.map weigh) (i : Int)) (by omega) (by omega)]
    by_cases hc1 : s.2.1 < 0
    · have e : loadF (l.map weigh) a i s = (s.1 ++ [s.2.1 + 1], s.2.1 + 1, a - rd (l.map weigh) (i : Int)) := if_pos (Or.inl hc1)
      rw [e] at hr
      exact Ev.ite_pos hc1 (Ev.ite_pos (by omega) hr)
    · refine Ev.ite_neg hc1 ?_
      by_cases hc2 : rd (l.map weigh) (i : Int) > s.2.2
      · have e : loadF (l.map weigh) a i s = (s.1 ++ [s.2.1 + 1], s.2.1 + 1, a - rd (l.map weigh) (i : Int)) := if_pos (Or.inr hc2)
        rw [e] at hr
        exact Ev.ite_pos hc2 (Ev.ite_pos (by omega) hr)
      · have e : loadF (l.map weigh) a i s = (s.1 ++ [s.2.1], s.2.1, s.2.2 - rd (l.map weigh) (i : Int)) := if_neg (by rintro (h | h); exact hc1 h; exact hc2 h)
        rw [e] at hr
        rw [w64 (x := s.2.2 - rd (l.map weigh) (i : Int)) (by omega) (by omega)]
        exact Ev.ite_neg hc2 (Ev.ite_pos (by omega) hr)
  · intro i s hi hs hc
    cases hc
  · rintro s ⟨h1, h2, h3, h4, h5, h6⟩
    refine Ev.step (fun k => spec_BarrowLoads.l0.eq_2 _ _ _ _ _ _ _) (Ev.ite_neg (by omega) ?_)
    rw [w64 (x := s.2.1 + 1) (by omega) (by omega)]
    exact Ev.now _
theorem implRun (ws : List Int) (a : Int) (h : ws.length ≤ 1048576) (ha : 1 ≤ a ∧ a ≤ 600) (hw : ∀ i, i < ws.length → 1 ≤ rd ws (i : Int) ∧ rd ws (i : Int) ≤ a) : Ev (fun k => impl_BarrowLoads.l0 k a [] 0 a ws (ws.length : Int) 0) (loadsR ws a) := by
  unfold loadsR
  have h0 := Ev.loop (L := fun k (s : List Int × Int × Int) (i : Nat) => impl_BarrowLoads.l0 k a s.1 (s.2.1 + 1) (a - s.2.2) ws (ws.length : Int) i) ws.length (fun _ _ => true) (loadF ws a) (fun _ s => (s.1, s.2.1 + 1, 0)) (fun s => (s.1, s.2.1 + 1, 0)) (fineI ws a) ?_ ?_ ?_ ws.length 0 ([], -1, 0) (by omega) ⟨rfl, by decide, by decide, by decide, by decide, fun _ => rfl⟩
  · have e : (a : Int) - 0 = a := by omega
    rw [show (([], -1, 0) : List Int × Int × Int).2.2 = 0 from rfl, e] at h0
    exact h0
  · rintro i s hi hs _
    refine ⟨fine_step ha hw hi hs, fun r hr => Ev.step (fun k => impl_BarrowLoads.l0.eq_2 _ _ _ _ _ _ _ _) ?_⟩
    obtain ⟨h1, h2, h3, h4, h5, h6⟩ := hs
    have hwi := hw i hi
    rw [w64_succ (by omega), w64 (x := a - s.2.2 + rd ws (i : Int)) (by omega) (by omega), w64 (x := s.2.1 + 1 + 1) (by omega) (by omega), w64 (x := s.2.1 + 1 + 1 - 1) (by omega) (by omega), w64 (x := s.2.1 + 1 - 1) (by omega) (by omega), w64 (x := 0 + rd ws (i : Int)) (by omega) (by omega)]
    refine Ev.ite_pos (by omega) (Ev.ite_pos (by omega) (Ev.ite_pos (by omega) ?_))
    by_cases hc : s.2.1 < 0 ∨ rd ws (i : Int) > s.2.2
    · have e : loadF ws a i s = (s.1 ++ [s.2.1 + 1], s.2.1 + 1, a - rd ws (i : Int)) := if_pos hc
      rw [e] at hr
      rw [show s.2.1 + 1 + 1 - 1 = s.2.1 + 1 by omega, show (0 : Int) + rd ws (i : Int) = a - (a - rd ws (i : Int)) by omega]
      exact Ev.ite_pos (by rcases hc with h | h; have := h6 h; omega; omega) (Ev.ite_pos (by omega) hr)
    · have e : loadF ws a i s = (s.1 ++ [s.2.1], s.2.1, s.2.2 - rd ws (i : Int)) := if_neg hc
      rw [e] at hr
      rw [show s.2.1 + 1 - 1 = s.2.1 by omega, show a - s.2.2 + rd ws (i : Int) = a - (s.2.2 - rd ws (i : Int)) by omega]
      exact Ev.ite_neg (fun h => hc (Or.inr (by omega))) (Ev.ite_pos (by omega) hr)
  · intro i s hi hs hc
    cases hc
  · rintro s ⟨h1, h2, h3, h4, h5, h6⟩
    exact Ev.step (fun k => impl_BarrowLoads.l0.eq_2 _ _ _ _ _ _ _ _) (Ev.ite_neg (by omega) (Ev.now _))
theorem idx_val (ws : List Int) (x : Int) (h : ws.length ≤ 1048576) : Ev (fun k => slices_Index_int64_int64.f k ws x) (findFrom (fun y => decide (x = y)) 0 ws) := by
  unfold slices_Index_int64_int64.f
  refine Ev.find (L := fun k i => slices_Index_int64_int64.l0 k ws x (ws.length : Int) (i : Int)) ws (fun y => decide (x = y)) ?_ ?_ ?_
  · intro i hi hp r hr
    refine Ev.step (fun k => slices_Index_int64_int64.l0.eq_2 _ _ _ _ _) (Ev.ite_pos (by omega) (Ev.ite_pos (by omega) (Ev.ite_pos (by omega) ?_)))
    rw [rd_get hi, w64_succ (by omega)]
    exact Ev.ite_neg (by simpa using hp) hr
  · intro i hi hp
    refine Ev.step (fun k => slices_Index_int64_int64.l0.eq_2 _ _ _ _ _) (Ev.ite_pos (by omega) (Ev.ite_pos (by omega) (Ev.ite_pos (by omega) ?_)))
    rw [rd_get hi]
    exact Ev.ite_pos (by simpa using hp) (Ev.now _)
  · exact Ev.step (fun k => slices_Index_int64_int64.l0.eq_2 _ _ _ _ _) (Ev.ite_neg (by omega) (Ev.now _))
theorem contains_val (ws : List Int) (x : Int) (h : ws.length ≤ 1048576) : Ev (fun k => slices_Contains_int64_int64.f k ws x) (ws.any fun y => decide (x = y)) := by
  unfold slices_Contains_int64_int64.f
  refine Ev.bind (idx_val ws x h) (Ev.eq_ (Ev.now _) (findFrom_ge _ ws 0))
theorem unless_v (b : Bool) (c : Int) : impl_unless.f b c = some (if b = true then 0 else c) := by
  unfold impl_unless.f
  split <;> rfl
def weightsR (l : List Sl) : List Int × Int := if heavyV l = 1 then ([], 1) else (l.map weigh, heavyV l)
theorem all_weigh (l : List Sl) : (l.map weigh).any (fun y => decide (0 = y)) = !l.all (fun x => weigh x != 0) := by
  induction l with
  | nil => rfl
  | cons x xs ih =>
    rw [List.map_cons, List.any_cons, List.all_cons, ih, Bool.not_and]
    congr 1
    by_cases h : weigh x = 0
    · simp [h]
    · simp [h, Ne.symm h]
theorem implWeights (l : List Sl) (h : l.length ≤ 1048576) : Ev (fun k => impl_weights.f k l) (weightsR l) := by
  unfold impl_weights.f
  refine Ev.run (L := fun k s (i : Nat) => impl_weights.l0 k l s l (l.length : Int) i) l.length (fun i s => s ++ [weigh (rd_T85 l (i : Int))]) (fun i s => s = (l.map weigh).take i) (weightsR l) ?_ ?_ (d := l.length) (i := 0) (by omega) (by simp)
  · rintro i s hi rfl
    have hlm : (l.map weigh).length = l.length := by simp
    refine ⟨?_, fun r hr => Ev.step (fun k => impl_weights.l0.eq_2 _ _ _ _ _ _) ?_⟩
    · rw [List.take_succ_eq_append_getElem (by omega), rdI_get hi]
      simp
    · refine Ev.ite_pos (by omega) (Ev.ite_pos (by omega) (Ev.ite_pos (by omega) (Ev.call (implWeigh _) (Ev.ite_pos (by rw [List.length_take]; omega) ?_))))
      rw [w64_succ (by omega)]
      exact hr
  · rintro s rfl
    rw [List.take_of_length_le (by simp)]
    refine Ev.step (fun k => impl_weights.l0.eq_2 _ _ _ _ _ _) (Ev.ite_neg (by omega) (Ev.bind (contains_val _ 0 (by simp; omega)) ?_))
    rw [all_weigh]
    by_cases ha : l.all (fun x => weigh x != 0) = true
    · have eh : heavyV l = if l.length > 10 then 3 else 0 := if_pos ha
      rw [ha]
      refine Ev.ite_neg (by decide) (Ev.call (unless_v _ _) (Ev.eq_ (Ev.now _) ?_))
      unfold weightsR
      rw [eh]
      by_cases h10 : l.length > 10
      · rw [if_pos h10, if_neg (by simp; omega), if_neg (by decide)]
      · rw [if_neg h10, if_pos (by simp; omega), if_neg (by decide)]
    · have ha' : l.all (fun x => weigh x != 0) = false := by simpa using ha
      have eh : heavyV l = 1 := if_neg ha
      rw [ha']
      unfold weightsR
      rw [if_pos eh]
      exact Ev.ite_pos rfl (Ev.now _)
def loadWR (l : List Sl) (a : Int) : List Int × Int := if loadsV l a = 0 then (l.map weigh, 0) else ([], loadsV l a)
theorem closure_val (x a : Int) : impl_loadWeights_1.f x [a] = some (decide (x > a)) := by
  unfold impl_loadWeights_1.f
  rw [if_pos (by simp)]
  rfl
theorem implFunc (ws : List Int) (a : Int) (h : ws.length ≤ 1048576) : Ev (fun k => slices_ContainsFunc_int64_int64_at_impl_loadWeights_1.f k ws [a]) (ws.any fun x => decide (x > a)) := by
  unfold slices_ContainsFunc_int64_int64_at_impl_loadWeights_1.f
  refine Ev.bind (a := findFrom (fun x => decide (x > a)) 0 ws) ?_ (Ev.eq_ (Ev.now _) (findFrom_ge _ ws 0))
  unfold slices_IndexFunc_int64_int64_at_impl_loadWeights_1.f
  refine Ev.find (L := fun k i => slices_IndexFunc_int64_int64_at_impl_loadWeights_1.l0 k ws (ws.length : Int) (i : Int) [a]) ws (fun x => decide (x > a)) ?_ ?_ ?_
  · intro i hi hp r hr
    refine Ev.step (fun k => slices_IndexFunc_int64_int64_at_impl_loadWeights_1.l0.eq_2 _ _ _ _ _) (Ev.ite_pos (by omega) (Ev.ite_pos (by omega) (Ev.ite_pos (by omega) (Ev.call (closure_val _ _) ?_))))
    rw [rd_get hi, w64_succ (by omega), hp]
    exact Ev.ite_neg (by decide) hr
  · intro i hi hp
    refine Ev.step (fun k => slices_IndexFunc_int64_int64_at_impl_loadWeights_1.l0.eq_2 _ _ _ _ _) (Ev.ite_pos (by omega) (Ev.ite_pos (by omega) (Ev.ite_pos (by omega) (Ev.call (closure_val _ _) ?_))))
    rw [rd_get hi, hp]
    exact Ev.ite_pos rfl (Ev.now _)
  · exact Ev.step (fun k => slices_IndexFunc_int64_int64_at_impl_loadWeights_1.l0.eq_2 _ _ _ _ _) (Ev.ite_neg (by omega) (Ev.now _))
theorem any_map (l : List Sl) (a : Int) : (l.map weigh).any (fun x => decide (x > a)) = !l.all (fun x => !decide (weigh x > a)) := by
  induction l with
  | nil => rfl
  | cons x xs ih => rw [List.map_cons, List.any_cons, List.all_cons, ih, Bool.not_and, Bool.not_not]
theorem heavy_cases (l : List Sl) : heavyV l = 0 ∨ heavyV l = 1 ∨ heavyV l = 3 := by
  unfold heavyV
  split
  · split <;> simp
  · simp
theorem implLoads (l : List Sl) (a : Int) (h : l.length ≤ 1048576) : Ev (fun k => impl_loadWeights.f k l a) (loadWR l a) := by
  unfold impl_loadWeights.f
  refine Ev.bind (implWeights l h) ?_
  unfold loadWR
  rcases heavy_cases l with h0 | h0 | h0
  · have e : weightsR l = (l.map weigh, 0) := by unfold weightsR; rw [if_neg (by omega), h0]
    have e2 : loadsV l a = (if inB a 1 600 = true then (if l.all (fun x => !decide (weigh x > a)) = true then 0 else 6) else 2) := by unfold loadsV; rw [if_pos h0]
    rw [e, e2]
    refine Ev.ite_pos rfl (Ev.call (within_val _ _ _) ?_)
    by_cases h1 : inB a 1 600 = true
    · rw [if_pos h1]
      refine Ev.ite_pos h1 (Ev.bind (implFunc (l.map weigh) a (by simp; omega)) ?_)
      rw [any_map]
      by_cases h2 : l.all (fun x => !decide (weigh x > a)) = true
      · rw [h2, if_pos rfl, if_pos rfl]
        exact Ev.ite_neg (by decide) (Ev.now _)
      · have h2' : l.all (fun x => !decide (weigh x > a)) = false := by simpa using h2
        rw [h2']
        exact Ev.ite_pos rfl (Ev.eq_ (Ev.now _) (by simp))
    · rw [if_neg h1, if_neg (by decide)]
      exact Ev.ite_neg h1 (Ev.now _)
  · have e : weightsR l = ([], 1) := by unfold weightsR; rw [if_pos h0]
    have e2 : loadsV l a = 1 := by unfold loadsV; rw [if_neg (by omega), h0]
    rw [e, e2, if_neg (by decide)]
    exact Ev.ite_neg (show ¬ (1 : Int) = 0 by decide) (Ev.now _)
  · have e : weightsR l = (l.map weigh, 3) := by unfold weightsR; rw [if_neg (by omega), h0]
    have e2 : loadsV l a = 3 := by unfold loadsV; rw [if_neg (by omega), h0]
    rw [e, e2, if_neg (by decide)]
    exact Ev.ite_neg (show ¬ (3 : Int) = 0 by decide) (Ev.now _)
def barrowR (l : List Sl) (a : Int) : List Int × Int × Int := if loadsV l a = 0 then loadsR (l.map weigh) a else ([], 0, loadsV l a)
theorem loads_good {l : List Sl} {a : Int} (h : loadsV l a = 0) : (1 ≤ a ∧ a ≤ 600) ∧ ∀ i, i < l.length → 1 ≤ rd (l.map weigh) (i : Int) ∧ rd (l.map weigh) (i : Int) ≤ a := by
  unfold loadsV at h
  by_cases h0 : heavyV l = 0
  · rw [if_pos h0] at h
    by_cases h1 : inB a 1 600 = true
    · rw [if_pos h1] at h
      by_cases h2 : l.all (fun x => !decide (weigh x > a)) = true
      · refine ⟨inB_iff.1 h1, fun i hi => ?_⟩
        have hm := List.getElem_mem hi
        have g2 := List.all_eq_true.1 h2 _ hm
        have g1 : l.all (fun x => weigh x != 0) = true := by
          unfold heavyV at h0
          by_cases hh : l.all (fun x => weigh x != 0) = true
          · exact hh
          · rw [if_neg hh] at h0; cases h0
        have g1 := List.all_eq_true.1 g1 _ hm
        have hb := weigh_le l[i]
        have er : rd (l.map weigh) (i : Int) = weigh l[i] := by
          rw [rd_get (by simpa using hi)]
          simp
        rw [er]
        have g1' : weigh l[i] ≠ 0 := by simpa using g1
        have g2' : weigh l[i] ≤ a := by simpa using g2
        omega
      · rw [if_neg h2] at h; cases h
    · rw [if_neg h1] at h; cases h
  · rw [if_neg h0] at h
    exact absurd h h0
theorem loadsR_len (ws : List Int) (a : Int) : (loadsR ws a).1.length ≤ ws.length := by
  unfold loadsR
  refine loopV_ind ws.length (fun i s => s.1.length = i) (fun (r : List Int × Int × Int) => r.1.length ≤ ws.length) ?_ ?_ ?_ ws.length 0 ([], -1, 0) (by omega) rfl
  · intro i s hi hs _
    unfold loadF
    split <;> simp [hs]
  · intro i s hi hs hc
    cases hc
  · intro s hs
    exact Nat.le_of_eq hs
theorem barrowR_len (l : List Sl) (a : Int) : (barrowR l a).1.length ≤ l.length := by
  have h := loadsR_len (l.map weigh) a
  rw [List.length_map] at h
  unfold barrowR
  split
  · exact h
  · simp
theorem specBarrow (l : List Sl) (a : Int) (h : l.length ≤ 1048576) : Ev (fun k => spec_BarrowLoads.f k l a) (barrowR l a) := by
  unfold spec_BarrowLoads.f barrowR
  refine Ev.bind (specLoads l a h) ?_
  by_cases h0 : loadsV l a = 0
  · rw [if_pos h0]
    obtain ⟨g1, g2⟩ := loads_good h0
    exact Ev.ite_pos h0 (specRun l a h g1 g2)
  · rw [if_neg h0]
    exact Ev.ite_neg h0 (Ev.now _)
theorem implBarrow (l : List Sl) (a : Int) (h : l.length ≤ 1048576) : Ev (fun k => impl_BarrowLoads.f k l a) (barrowR l a) := by
  unfold impl_BarrowLoads.f barrowR
  refine Ev.bind (implLoads l a h) ?_
  unfold loadWR
  by_cases h0 : loadsV l a = 0
  · rw [if_pos h0, if_pos h0]
    obtain ⟨g1, g2⟩ := loads_good h0
    have hlm : (l.map weigh).length = l.length := by simp
    exact Ev.ite_pos rfl (implRun (l.map weigh) a (by omega) g1 (fun i hi => g2 i (by omega)))
  · rw [if_neg h0, if_neg h0]
    exact Ev.ite_neg h0 (Ev.now _)
theorem pure_FnExactBarrowLoads : Pure.FnExactBarrowLoads := by
  rintro l a ⟨hl, -⟩ -
  unfold maxLen at hl
  refine Ev.rounds (g := fun k => laws_FnExactBarrowLoads.f k l a) ?_
  unfold laws_FnExactBarrowLoads.f
  refine Ev.call (szSlabs l _ hl (by omega) (by omega)) ?_
  by_cases h : (1048576 : Int) < l.length
  · rw [if_pos h]
    exact Ev.ite_pos (by decide) (Ev.now _)
  · rw [if_neg h]
    have hlm : (l.map slabOf).length = l.length := by simp
    have hlen := barrowR_len (l.map slabOf) a
    have hS := specBarrow (l.map slabOf) a (by omega)
    have hI := implBarrow (l.map slabOf) a (by omega)
    generalize barrowR (l.map slabOf) a = R at *
    refine Ev.ite_neg (by omega) (Ev.bind (toSlabs l (by omega)) (Ev.bind hS (Ev.bind (toSlabs l (by omega)) (Ev.bind hI (Ev.bind (eqInts _ (by omega)) (Ev.ite_pos rfl (Ev.ite_pos rfl ?_)))))))
    rw [show (R.2.2 != R.2.2) = false by simp]
    refine Ev.step (fun k => laws_FnExactBarrowLoads.j0.eq_2 _ _ _ _ _ _ _ _ _ _ _) (Ev.ite_neg (by decide) (Ev.bind (toSlabs l (by omega)) (Ev.bind (eqSlabs _ (by omega)) (Ev.ite_pos rfl (Ev.bind (markSlabs _ (by omega)) (Ev.ite_neg (by show ¬ (1 + 4 * (((l.map slabOf).length : Nat) : Int) < 0); omega) (Ev.bind (eqInts _ (by omega)) (Ev.ite_pos rfl (Ev.ite_pos rfl ?_)))))))))
    rw [show (R.2.2 != R.2.2) = false by simp]
    refine Ev.step (fun k => laws_FnExactBarrowLoads.j1.eq_2 _ _ _ _ _ _ _ _) (Ev.ite_neg (by decide) (Ev.bind (markInts _ (by omega)) (Ev.bind (heldInts _ (by omega)) (Ev.ite_neg (by omega) (Ev.ite_pos rfl (Ev.bind (toSlabs l (by omega)) (Ev.bind hI (Ev.bind (eqInts _ (by omega)) (Ev.ite_pos rfl (Ev.ite_pos rfl ?_))))))))))
    rw [show (R.2.2 != R.2.2) = false by simp]
    exact Ev.step (fun k => laws_FnExactBarrowLoads.j2.eq_2 _ _ _ _) (Ev.ite_neg (by decide) (Ev.bind (heldInts _ (by omega)) (Ev.ite_neg (by omega) (Ev.ite_pos rfl (Ev.now _)))))
end Go.Proofs.Ytflnkaabfjfdlaa.Q
