/- Plain facts: the reference's table holds the fewest setts. -/
import Derived.Test.YtabooaeobpgadaaXQ24
import Derived.Test.YtabooaeobpgadaaXQBMin
namespace Go.Proofs.Ytabooaeobpgadaa.Q
open Go.RowKit Go.Proofs.YtabooaeobpgadaaW.PrintWords Go.Proofs.YtabooaeobpgadaaW.PrintLast Go.Proofs.YtabooaeobpgadaaW.PrintMore
set_option linter.unusedVariables false
set_option linter.unusedSimpArgs false
theorem minK_stop (f : Nat → Int) {w at_ k : Nat} (h : at_ < k * w) : ∀ d, minK f w at_ (k + d) = minK f w at_ k
 | 0 => rfl
 | d + 1 => by
  have h2 : k * w ≤ (k + d) * w := Nat.mul_le_mul_right _ (by omega)
  show (if (k + d) * w ≤ at_ then _ else minK f w at_ (k + d)) = _
  rw [if_neg (Nat.not_le.2 (Nat.lt_of_lt_of_le h h2))]
  exact minK_stop f h d
def tblM (N : Nat) (f : Nat → Int) : List Int := (List.range (N + 1)).map f
theorem tblM_len (N : Nat) (f : Nat → Int) : (tblM N f).length = N + 1 := by simp [tblM]
theorem tblM_get (N : Nat) (f : Nat → Int) {p : Nat} (h : p < N + 1) : rd (tblM N f) (p : Int) = f p := by
 rw [rd_get (by rw [tblM_len]; exact h)]
 simp [tblM]
def tabM (N : Nat) : List (Nat × Nat) → List (List Int)
 | [] => [tblM N (minT [])]
 | x :: t => tblM N (minT (x :: t)) :: tabM N t
theorem tabM_cons (N : Nat) : ∀ ws, ∃ t, tabM N ws = tblM N (minT ws) :: t
 | [] => ⟨_, rfl⟩
 | x :: t => ⟨_, rfl⟩
theorem tabM_len (N : Nat) : ∀ ws, (tabM N ws).length = ws.length + 1
 | [] => rfl
 | x :: t => by simp [tabM, tabM_len N t]
theorem tabM_at (N : Nat) : ∀ (ws : List (Nat × Nat)) (i : Nat), i ≤ ws.length → (tabM N ws).getD i [] = tblM N (minT (ws.drop i))
 | [], 0, _ => rfl
 | x :: t, 0, _ => rfl
 | x :: t, i + 1, h => by
  rw [List.drop_succ_cons]
  show (tblM N _ :: tabM N t).getD (i + 1) [] = _
  rw [List.getD_cons_succ]
  exact tabM_at N t i (by simpa using h)
def partM (N n : Nat) (f : Nat → Int) : List Int := (List.range (N + 1)).map fun p => if p < n then f p else 0
theorem partM_len (N n : Nat) (f : Nat → Int) : (partM N n f).length = N + 1 := by simp [partM]
theorem partM_zero (N : Nat) (f : Nat → Int) : partM N 0 f = List.replicate (N + 1) 0 := by
 apply List.ext_getElem <;> simp [partM]
theorem partM_full (N : Nat) (f : Nat → Int) : partM N (N + 1) f = tblM N f := by
 apply List.ext_getElem
 · simp [partM, tblM]
 ·
  intro i h1 h2
  simp [partM] at h1
  simp [partM, tblM]
  omega
theorem partM_succ (N n : Nat) (f : Nat → Int) : (partM N n f).set n (f n) = partM N (n + 1) f := by
 apply List.ext_getElem
 · simp [partM]
 ·
  intro i h1 h2
  rw [List.getElem_set]
  simp only [partM, List.getElem_map, List.getElem_range]
  by_cases h : n = i
  ·
   subst h
   simp
  ·
   rw [if_neg h]
   by_cases h3 : i < n
   · rw [if_pos h3, if_pos (by omega)]
   · rw [if_neg h3, if_neg (by omega)]
theorem tab3 (l : List S66) (a1 : Int) (ft : Nat → Int) (rest : List (List Int)) (i w c N at_ : Nat) (r : List (List Int)) (hN : N ≤ 100000) (hl : l.length ≤ 1000) (hi : i < l.length) (hg : goodS a1 (rd_T66 l (i : Int)) w c) (hf : ∀ p, -1 ≤ ft p ∧ ft p ≤ 100000) (hat : at_ < N + 1)
  (hend : Ev (fun k => spec_l03Table.l2 k l a1 (N : Int) (tblM N ft :: rest) (i : Int) (w : Int) (partM N (at_ + 1) (fun p => minK ft w p (c + 1))) ((at_ + 1 : Nat) : Int)) r) :
  ∀ d k, k + d = c + 1 → Ev (fun n => spec_l03Table.l3 n l a1 (N : Int) (tblM N ft :: rest) (i : Int) (w : Int) ((partM N at_ (fun p => minK ft w p (c + 1))).set at_ (minK ft w at_ k)) (at_ : Int) (k : Int)) r := by
 obtain ⟨g1, g2, g3, g4, g5⟩ := hg
 have stop : ∀ k, minK ft w at_ k = minK ft w at_ (c + 1) → Ev (fun n => spec_l03Table.j4 n l a1 (N : Int) (tblM N ft :: rest) (i : Int) (w : Int) ((partM N at_ (fun p => minK ft w p (c + 1))).set at_ (minK ft w at_ k)) (at_ : Int) (k : Int) false) r := by
  intro k e
  have h := partM_succ N at_ (fun p => minK ft w p (c + 1))
  refine Ev.step (fun n => spec_l03Table.j4.eq_2 _ _ _ _ _ _ _ _ _ _ _) (Ev.ite_neg (by decide) ?_)
  rw [e, h, w64_succ (by omega)]
  exact hend
 intro d
 induction d with
 | zero =>
  intro k hk
  obtain rfl : k = c + 1 := by omega
  refine Ev.step (fun n => spec_l03Table.l3.eq_2 _ _ _ _ _ _ _ _ _ _) ?_
  rw [g2]
  exact Ev.ite_pos (by omega) (Ev.ite_pos (by omega) (Ev.ite_neg (by omega) (stop _ rfl)))
 | succ d ih =>
  intro k hk
  refine Ev.step (fun n => spec_l03Table.l3.eq_2 _ _ _ _ _ _ _ _ _ _) ?_
  obtain ⟨m, hm⟩ : ∃ m : Nat, m = k * w := ⟨_, rfl⟩
  have hmb : m ≤ 1000000 := by
   have h1 : k * w ≤ 1000 * 1000 := Nat.mul_le_mul (by omega) g4
   rw [hm]
   exact Nat.le_trans h1 (by decide)
  have e1 : wrap64 ((k : Int) * (w : Int)) = (m : Int) := by
   have h2 : (k : Int) * (w : Int) = (m : Int) := by rw [hm]; simp
   rw [h2]
   clear h2 hm
   exact w64 (by omega) (by omega)
  have hst : at_ < m → minK ft w at_ k = minK ft w at_ (c + 1) := by
   intro h3
   have h4 := minK_stop ft (w := w) (at_ := at_) (k := k) (by rw [← hm]; exact h3) (c + 1 - k)
   clear hm e1
   rw [show k + (c + 1 - k) = c + 1 by omega] at h4
   exact h4.symm
  have hfo : m ≤ at_ → minK ft w at_ (k + 1) = if 0 ≤ ft (at_ - m) ∧ (minK ft w at_ k < 0 ∨ ft (at_ - m) + k < minK ft w at_ k) then ft (at_ - m) + k else minK ft w at_ k := by
   intro h3
   rw [minK, ← hm, if_pos h3]
  rw [g2, e1]
  have step : ∀ b : Bool, Ev (fun n => spec_l03Table.j4 n l a1 (N : Int) (tblM N ft :: rest) (i : Int) (w : Int) ((partM N at_ (fun p => minK ft w p (c + 1))).set at_ (minK ft w at_ k)) (at_ : Int) (k : Int) (decide ((m : Int) ≤ (at_ : Int)))) r → Ev (fun n => if 0 ≤ (i : Int) then (if (i : Int) < (l.length : Int) then (if (k : Int) ≤ (c : Int) then spec_l03Table.j4 n l a1 (N : Int) (tblM N ft :: rest) (i : Int) (w : Int) ((partM N at_ (fun p => minK ft w p (c + 1))).set at_ (minK ft w at_ k)) (at_ : Int) (k : Int) (decide ((m : Int) ≤ (at_ : Int))) else spec_l03Table.j4 n l a1 (N : Int) (tblM N ft :: rest) (i : Int) (w : Int) ((partM N at_ (fun p => minK ft w p (c + 1))).set at_ (minK ft w at_ k)) (at_ : Int) (k : Int) false) else none) else none) r := fun _ h => Ev.ite_pos (by omega) (Ev.ite_pos (by omega) (Ev.ite_pos (by omega) h))
  refine step true ?_
  by_cases hkat : m ≤ at_
  ·
   have ih' := ih (k + 1) (by omega)
   have ef := hfo hkat
   rw [show decide ((m : Int) ≤ (at_ : Int)) = true from decide_eq_true (Int.ofNat_le.2 hkat)]
   refine Ev.step (fun n => spec_l03Table.j4.eq_2 _ _ _ _ _ _ _ _ _ _ _) (Ev.ite_pos rfl ?_)
   rw [e1]
   clear e1 hm step hst hfo
   obtain ⟨f0, f1⟩ := hf (at_ - m)
   have er : rd_L1 (tblM N ft :: rest) 0 = tblM N ft := rfl
   rw [er, w64_succ (i := k) (by omega), w64 (x := (at_ : Int) - (m : Int)) (by omega) (by omega), show (at_ : Int) - (m : Int) = ((at_ - m : Nat) : Int) by omega, tblM_get N ft (by omega), rd_set (by rw [partM_len]; exact hat), Int.toNat_natCast, List.set_set]
   have hlen : (at_ : Int) < ((((partM N at_ fun p => minK ft w p (c + 1)).set at_ (minK ft w at_ k)).length : Nat) : Int) := by rw [List.length_set, partM_len]; omega
   refine Ev.ite_pos (by simp only [List.length_cons]; omega) (Ev.ite_pos (by omega) (Ev.ite_pos (by rw [tblM_len]; omega) ?_))
   by_cases h0 : ft (at_ - m) ≥ 0
   ·
    have ew : wrap64 (ft (at_ - m) + (k : Int)) = ft (at_ - m) + k := w64 (by omega) (by omega)
    refine Ev.ite_pos h0 (Ev.ite_pos (by omega) (Ev.ite_pos hlen ?_))
    rw [ew]
    by_cases h1 : minK ft w at_ k < 0
    ·
     rw [if_pos ⟨h0, Or.inl h1⟩] at ef
     rw [ef] at ih'
     exact Ev.ite_pos h1 ih'
    ·
     refine Ev.ite_neg h1 ?_
     by_cases h2 : ft (at_ - m) + (k : Int) < minK ft w at_ k
     ·
      rw [if_pos ⟨h0, Or.inr h2⟩] at ef
      rw [ef] at ih'
      exact Ev.ite_pos h2 ih'
     ·
      rw [if_neg (by rintro ⟨-, h | h⟩ <;> omega)] at ef
      rw [ef] at ih'
      exact Ev.ite_neg h2 ih'
   ·
    rw [if_neg (by rintro ⟨h, -⟩; omega)] at ef
    rw [ef] at ih'
    exact Ev.ite_neg h0 ih'
  ·
   rw [show decide ((m : Int) ≤ (at_ : Int)) = false from decide_eq_false (fun h => hkat (Int.ofNat_le.1 h))]
   exact stop k (hst (Nat.lt_of_not_le hkat))
theorem tab2 (l : List S66) (a1 : Int) (ft : Nat → Int) (rest : List (List Int)) (i w c N : Nat) (r : List (List Int)) (hN : N ≤ 100000) (hl : l.length ≤ 1000) (hr : rest.length ≤ 1000) (hi : i < l.length) (hg : goodS a1 (rd_T66 l (i : Int)) w c) (hf : ∀ p, -1 ≤ ft p ∧ ft p ≤ 100000)
  (hend : Ev (fun k => spec_l03Table.l1 k l a1 (N : Int) (tblM N (fun p => minK ft w p (c + 1)) :: tblM N ft :: rest) ((i : Int) - 1)) r) :
  ∀ d at_, at_ + d = N + 1 → Ev (fun n => spec_l03Table.l2 n l a1 (N : Int) (tblM N ft :: rest) (i : Int) (w : Int) (partM N at_ (fun p => minK ft w p (c + 1))) (at_ : Int)) r := by
 intro d
 induction d with
 | zero =>
  intro at_ h
  obtain rfl : at_ = N + 1 := by omega
  refine Ev.step (fun n => spec_l03Table.l2.eq_2 _ _ _ _ _ _ _ _ _) (Ev.ite_neg (by omega) (Ev.call rfl (Ev.ite_pos (by simp only [List.length_cons, List.length_nil]; omega) ?_)))
  rw [partM_full, w64 (x := (i : Int) - 1) (by omega) (by omega)]
  exact hend
 | succ d ih =>
  intro at_ h
  refine Ev.step (fun n => spec_l03Table.l2.eq_2 _ _ _ _ _ _ _ _ _) (Ev.ite_pos (by omega) (Ev.ite_pos (by omega) (Ev.ite_pos (by rw [partM_len]; omega) ?_)))
  rw [Int.toNat_natCast]
  exact tab3 l a1 ft rest i w c N at_ r hN hl hi hg hf (by omega) (ih (at_ + 1) (by omega)) (c + 1) 0 (by omega)
theorem tab1 (l : List S66) (a1 : Int) (ws : List (Nat × Nat)) (N : Nat) (hN : N ≤ 100000) (hl : l.length ≤ 1000) (hg : goodL a1 l ws) (hf : ∀ m p, -1 ≤ minT (ws.drop m) p ∧ minT (ws.drop m) p ≤ 100000) :
  ∀ m, m ≤ ws.length → Ev (fun k => spec_l03Table.l1 k l a1 (N : Int) (tabM N (ws.drop m)) ((m : Int) - 1)) (tabM N ws) := by
 intro m
 induction m with
 | zero =>
  intro _
  exact Ev.step (fun n => spec_l03Table.l1.eq_2 _ _ _ _ _ _) (Ev.ite_neg (by omega) (Ev.now _))
 | succ m ih =>
  intro hm
  obtain ⟨hw, hgs⟩ := hg
  have g := hgs m (by omega)
  obtain ⟨t, et⟩ := tabM_cons N (ws.drop (m + 1))
  have hlt := tabM_len N (ws.drop (m + 1))
  rw [et, List.length_cons, List.length_drop] at hlt
  have ih' := ih (by omega)
  rw [List.drop_eq_getElem_cons (show m < ws.length by omega)] at ih'
  have e2 : tabM N (ws[m] :: ws.drop (m + 1)) = tblM N (fun p => minK (minT (ws.drop (m + 1))) ws[m].1 p (ws[m].2 + 1)) :: tabM N (ws.drop (m + 1)) := rfl
  rw [e2, et] at ih'
  rw [et, show ((m + 1 : Nat) : Int) - 1 = (m : Int) by omega]
  refine Ev.step (fun n => spec_l03Table.l1.eq_2 _ _ _ _ _ _) ?_
  rw [g.1, w64_succ (i := N) (by omega), Int.toNat_natCast]
  refine Ev.ite_pos (by omega) (Ev.ite_pos (by omega) (Ev.ite_pos (by omega) (Ev.ite_pos (by omega) (Ev.ite_pos (by omega) ?_))))
  rw [← partM_zero N (fun p => minK (minT (ws.drop (m + 1))) ws[m].1 p (ws[m].2 + 1))]
  exact tab2 l a1 _ t m ws[m].1 ws[m].2 N _ hN hl (by omega) (by omega) g (hf (m + 1)) ih' (N + 1) 0 (by omega)
theorem table_val (l : List S66) (a1 : Int) (ws : List (Nat × Nat)) (N : Nat) (hN : N ≤ 100000) (hl : l.length ≤ 1000) (hg : goodL a1 l ws) (hf : ∀ m p, -1 ≤ minT (ws.drop m) p ∧ minT (ws.drop m) p ≤ 100000) : Ev (fun k => spec_l03Table.f k l a1 (N : Int)) (tabM N ws) := by
 unfold spec_l03Table.f
 rw [w64_succ (i := N) (by omega), Int.toNat_natCast]
 refine Ev.ite_pos (by omega) (Ev.ite_pos (by omega) ?_)
 have key : ∀ d n, n + d = N + 1 → 1 ≤ n → Ev (fun k => spec_l03Table.l0 k l a1 (N : Int) (partM N n (minT [])) (n : Int)) (tabM N ws) := by
  intro d
  induction d with
  | zero =>
   intro n hn _
   obtain rfl : n = N + 1 := by omega
   refine Ev.step (fun n => spec_l03Table.l0.eq_2 _ _ _ _ _ _) (Ev.ite_neg (by omega) ?_)
   rw [partM_full, w64 (x := (l.length : Int) - 1) (by omega) (by omega)]
   have h := tab1 l a1 ws N hN hl hg hf ws.length (Nat.le_refl _)
   rw [List.drop_length, hg.1] at h
   exact h
  | succ d ih =>
   intro n hn h1
   refine Ev.step (fun n => spec_l03Table.l0.eq_2 _ _ _ _ _ _) (Ev.ite_pos (by omega) (Ev.ite_pos (by omega) (Ev.ite_pos (by rw [partM_len]; omega) ?_)))
   have h2 := partM_succ N n (minT [])
   rw [show minT [] n = -1 from if_neg (by omega)] at h2
   rw [Int.toNat_natCast, h2, w64_succ (by omega)]
   exact ih (n + 1) (by omega) (by omega)
 have h3 : partM N 1 (minT []) = List.replicate (N + 1) 0 := by
  apply List.ext_getElem
  · simp [partM]
  ·
   intro i h1 h2
   simp only [partM, List.getElem_map, List.getElem_range, List.getElem_replicate]
   by_cases hi : i < 1
   ·
    rw [if_pos hi]
    exact if_pos (by omega)
   · rw [if_neg hi]
 have h4 := key N 1 (by omega) (by omega)
 rw [h3] at h4
 exact h4
end Go.Proofs.Ytabooaeobpgadaa.Q
