/- Plain facts on squares: what the reference's grid holds; which squares are valid. -/
import Derived.Test.YtpelelodjigijaaXQBLay
namespace Go.Proofs.Ytpelelodjigijaa.Q
open Go.RowKit Go.Proofs.YtpelelodjigijaaW.PrintWords Go.Proofs.YtpelelodjigijaaW.PrintLast Go.Proofs.YtpelelodjigijaaW.PrintMore
set_option linter.unusedVariables false
set_option linter.unusedSimpArgs false
def cellAt (g : List Int) (y x : Int) : Int := rd g (y * 12 + x)
theorem rd_set_if {g : List Int} {i j : Int} (hi : 0 ≤ i) (hj : 0 ≤ j) (hl : i < g.length) (v : Int) : rd (g.set i.toNat v) j = if j = i then v else rd g j := by
 obtain ⟨n, rfl⟩ := Int.eq_ofNat_of_zero_le hi
 obtain ⟨m, rfl⟩ := Int.eq_ofNat_of_zero_le hj
 unfold rd
 simp only [Int.toNat_natCast, List.getD_eq_getElem?_getD, List.getElem?_set]
 by_cases h : m = n
 ·
  subst h
  rw [if_pos rfl, if_pos rfl, if_pos (by omega)]
  rfl
 · rw [if_neg (fun e => h e.symm), if_neg (by omega)]
theorem cell_set {g : List Int} {y x y' x' : Int} (hg : g.length = 144) (hy : 0 ≤ y ∧ y < 12) (hx : 0 ≤ x ∧ x < 12) (hy' : 0 ≤ y' ∧ y' < 12) (hx' : 0 ≤ x' ∧ x' < 12) (v : Int) : cellAt (g.set (y * 12 + x).toNat v) y' x' = if y' = y ∧ x' = x then v else cellAt g y' x' := by
 unfold cellAt
 rw [rd_set_if (by omega) (by omega) (by omega)]
 by_cases h : y' = y ∧ x' = x
 · rw [if_pos h, if_pos (by omega)]
 · rw [if_neg h, if_neg (by omega)]
theorem layX_spec (i y : Int) (hi : 0 ≤ i) (hy : 0 ≤ y ∧ y < 12) : ∀ (d : Nat) (x : Int) (g : List Int), 0 ≤ x → x + (d : Int) ≤ 12 → g.length = 144 →
  ((layX i y d x g).2 = true ↔ ∀ x', x ≤ x' → x' < x + d → cellAt g y x' = 0) ∧
  ((layX i y d x g).2 = true → ∀ y' x', 0 ≤ y' ∧ y' < 12 → 0 ≤ x' ∧ x' < 12 → cellAt (layX i y d x g).1 y' x' = if y' = y ∧ x ≤ x' ∧ x' < x + d then i + 1 else cellAt g y' x')
 | 0, x, g, hx, hd, hg => by
  refine ⟨⟨fun _ x' h1 h2 => by omega, fun _ => rfl⟩, fun _ y' x' _ _ => ?_⟩
  rw [if_neg (by omega)]
  rfl
 | d + 1, x, g, hx, hd, hg => by
  unfold layX
  by_cases hc : rd g (y * 12 + x) = 0
  ·
   rw [if_pos hc]
   obtain ⟨h1, h2⟩ := layX_spec i y hi hy d (x + 1) (g.set (y * 12 + x).toNat (i + 1)) (by omega) (by omega) (by rw [List.length_set]; exact hg)
   refine ⟨⟨fun h x' a b => ?_, fun h => h1.2 fun x' a b => ?_⟩, fun h y' x' hy' hx' => ?_⟩
   ·
    by_cases e : x' = x
    · rw [e]; exact hc
    ·
     have := h1.1 h x' (by omega) (by omega)
     rwa [cell_set hg hy (by omega) hy (by omega), if_neg (by omega)] at this
   ·
    rw [cell_set hg hy (by omega) hy (by omega), if_neg (by omega)]
    exact h x' (by omega) (by omega)
   ·
    rw [h2 h y' x' hy' hx', cell_set hg hy (by omega) hy' hx']
    by_cases e : y' = y ∧ x' = x
    · rw [if_pos e, if_neg (by omega), if_pos (by omega)]
    ·
     rw [if_neg e]
     by_cases e2 : y' = y ∧ x + 1 ≤ x' ∧ x' < x + 1 + (d : Int)
     · rw [if_pos e2, if_pos (by omega)]
     · rw [if_neg e2, if_neg (by omega)]
  ·
   rw [if_neg hc]
   refine ⟨⟨fun h => (by cases h), fun h => absurd (h x (by omega) (by omega)) hc⟩, fun h => (by cases h)⟩
theorem layY_spec (i x0 : Int) (w : Nat) (hi : 0 ≤ i) (hx0 : 0 ≤ x0) (hw : x0 + (w : Int) ≤ 12) : ∀ (d : Nat) (y : Int) (g : List Int), 0 ≤ y → y + (d : Int) ≤ 12 → g.length = 144 →
  ((layY i x0 w d y g).2 = true ↔ ∀ y' x', y ≤ y' → y' < y + d → x0 ≤ x' → x' < x0 + w → cellAt g y' x' = 0) ∧
  ((layY i x0 w d y g).2 = true → ∀ y' x', 0 ≤ y' ∧ y' < 12 → 0 ≤ x' ∧ x' < 12 → cellAt (layY i x0 w d y g).1 y' x' = if (y ≤ y' ∧ y' < y + d) ∧ x0 ≤ x' ∧ x' < x0 + w then i + 1 else cellAt g y' x')
 | 0, y, g, hy, hd, hg => by
  refine ⟨⟨fun _ y' x' h1 h2 => by omega, fun _ => rfl⟩, fun _ y' x' _ _ => ?_⟩
  rw [if_neg (by omega)]
  rfl
 | d + 1, y, g, hy, hd, hg => by
  unfold layY
  obtain ⟨a1, a2⟩ := layX_spec i y hi ⟨hy, by omega⟩ w x0 g hx0 hw hg
  by_cases hc : (layX i y w x0 g).2 = true
  ·
   rw [if_pos hc]
   have a3 := a1.1 hc
   have a4 := a2 hc
   obtain ⟨h1, h2⟩ := layY_spec i x0 w hi hx0 hw d (y + 1) (layX i y w x0 g).1 (by omega) (by omega) (by rw [layX_len]; exact hg)
   refine ⟨⟨fun h y' x' b1 b2 b3 b4 => ?_, fun h => h1.2 fun y' x' b1 b2 b3 b4 => ?_⟩, fun h y' x' hy' hx' => ?_⟩
   ·
    by_cases e : y' = y
    · rw [e]; exact a3 x' b3 b4
    ·
     have := h1.1 h y' x' (by omega) (by omega) b3 b4
     rwa [a4 y' x' (by omega) (by omega), if_neg (by omega)] at this
   ·
    rw [a4 y' x' (by omega) (by omega), if_neg (by omega)]
    exact h y' x' (by omega) (by omega) b3 b4
   ·
    rw [h2 h y' x' hy' hx', a4 y' x' hy' hx']
    by_cases e : y' = y ∧ x0 ≤ x' ∧ x' < x0 + (w : Int)
    · rw [if_pos e, if_neg (by omega), if_pos (by omega)]
    ·
     rw [if_neg e]
     by_cases e2 : (y + 1 ≤ y' ∧ y' < y + 1 + (d : Int)) ∧ x0 ≤ x' ∧ x' < x0 + (w : Int)
     · rw [if_pos e2, if_pos (by omega)]
     · rw [if_neg e2, if_neg (by omega)]
  ·
   rw [if_neg hc]
   refine ⟨⟨fun h => (by cases h), fun h => absurd (a1.2 fun x' b1 b2 => h y x' (by omega) (by omega) b1 b2) hc⟩, fun h => (by cases h)⟩
def coverAt (l : List Sl) (y x : Int) : Int := findFrom (inside y x) 0 l
theorem findFrom_snoc {α : Type} (p : α → Bool) (a : α) : ∀ (l : List α) (i : Nat), findFrom p i (l ++ [a]) = if findFrom p i l = -1 then (if p a = true then ((i + l.length : Nat) : Int) else -1) else findFrom p i l
 | [], i => by simp [findFrom]
 | x :: xs, i => by
  have e1 : findFrom p i (x :: xs) = if p x = true then (i : Int) else findFrom p (i + 1) xs := rfl
  show (if p x = true then (i : Int) else findFrom p (i + 1) (xs ++ [a])) = _
  rw [e1]
  by_cases h : p x = true
  · rw [if_pos h, if_pos h, if_neg (by omega)]
  · rw [if_neg h, if_neg h, findFrom_snoc p a xs (i + 1), List.length_cons, show i + 1 + xs.length = i + (xs.length + 1) by omega]
theorem findFrom_none {α : Type} (p : α → Bool) : ∀ (l : List α) (i : Nat), findFrom p i l = -1 ↔ ∀ a ∈ l, p a = false
 | [], i => by simp [findFrom]
 | x :: xs, i => by
  unfold findFrom
  by_cases h : p x = true
  ·
   rw [if_pos h]
   exact ⟨fun e => by omega, fun e => by have := e x (by simp); rw [h] at this; cases this⟩
  ·
   rw [if_neg h, findFrom_none p xs (i + 1)]
   exact ⟨fun e a ha => by rcases List.mem_cons.1 ha with rfl | ha; simpa using h; exact e a ha, fun e a ha => e a (by simp [ha])⟩
theorem findFrom_lo {α : Type} (p : α → Bool) : ∀ (l : List α) (i : Nat), findFrom p i l = -1 ∨ (i : Int) ≤ findFrom p i l ∧ findFrom p i l < i + l.length
 | [], i => Or.inl rfl
 | x :: xs, i => by
  unfold findFrom
  by_cases h : p x = true
  ·
   rw [if_pos h]
   exact Or.inr ⟨by omega, by simp; omega⟩
  ·
   rw [if_neg h]
   rcases findFrom_lo p xs (i + 1) with h1 | ⟨h1, h2⟩
   · exact Or.inl h1
   · exact Or.inr ⟨by omega, by simp; omega⟩
def sqC (W H : Int) (l : List Sl) (i : Nat) : Bool := lies W H (rdS l i) && !(l.take i).any (meets (rdS l i)) && (decide (i = 0) || before (rdS l ((i : Int) - 1)) (rdS l i))
def sqB (q : Sq) : Bool := inB q.f0 1 12 && inB q.f1 1 12 && decide (q.f2.length ≤ 60) && loopV (fun i (_ : Unit) => sqC q.f0 q.f1 q.f2 i) (fun _ s => s) (fun _ _ => false) (fun _ => true) q.f2.length 0 ()
theorem meets_iff {s t : Sl} (hs : lies 12 12 s = true) (ht : lies 12 12 t = true) : meets s t = true ↔ ∃ y x, inside y x s = true ∧ inside y x t = true := by
 have h1 := of_decide_eq_true hs
 have h2 := of_decide_eq_true ht
 unfold meets inside
 simp only [decide_eq_true_eq]
 constructor
 ·
  intro h
  by_cases a : s.f1 ≤ t.f1 <;> by_cases b : s.f0 ≤ t.f0
  · exact ⟨t.f1, t.f0, by omega, by omega⟩
  · exact ⟨t.f1, s.f0, by omega, by omega⟩
  · exact ⟨s.f1, t.f0, by omega, by omega⟩
  · exact ⟨s.f1, s.f0, by omega, by omega⟩
 ·
  rintro ⟨y, x, h, h'⟩
  omega
theorem lies12 {W H : Int} {s : Sl} (hW : W ≤ 12) (hH : H ≤ 12) (h : lies W H s = true) : lies 12 12 s = true := by
 have h := of_decide_eq_true h
 exact decide_eq_true (by omega)
def gridI (l : List Sl) (i : Nat) (g : List Int) : Prop := g.length = 144 ∧ (∀ s ∈ l.take i, lies 12 12 s = true) ∧ ∀ y x, 0 ≤ y ∧ y < 12 → 0 ≤ x ∧ x < 12 → cellAt g y x = coverAt (l.take i) y x + 1
theorem lay_step {l : List Sl} {i : Nat} {g : List Int} (hi : i < l.length) (hl : lies 12 12 (rdS l i) = true) (hg : gridI l i g) :
  (laySlab i (rdS l i) g).2 = !(l.take i).any (meets (rdS l i)) ∧ ((laySlab i (rdS l i) g).2 = true → gridI l (i + 1) (laySlab i (rdS l i) g).1) := by
 obtain ⟨h1, h2, h3⟩ := hg
 have hb := of_decide_eq_true hl
 obtain ⟨a1, a2⟩ := layY_spec i (rdS l i).f0 (rdS l i).f2.toNat (by omega) (by omega) (by omega) (rdS l i).f3.toNat (rdS l i).f1 g (by omega) (by omega) h1
 have ei : ∀ y' x', ((rdS l i).f1 ≤ y' ∧ y' < (rdS l i).f1 + ((rdS l i).f3.toNat : Int)) ∧ (rdS l i).f0 ≤ x' ∧ x' < (rdS l i).f0 + ((rdS l i).f2.toNat : Int) ↔ inside y' x' (rdS l i) = true := by
  intro y' x'
  unfold inside
  rw [decide_eq_true_eq]
  omega
 have hok : (laySlab i (rdS l i) g).2 = true ↔ ∀ t ∈ l.take i, ¬ meets (rdS l i) t = true := by
  show (layY _ _ _ _ _ _).2 = true ↔ _
  rw [a1]
  constructor
  ·
   intro h t ht hm
   obtain ⟨y, x, hs, hx⟩ := (meets_iff hl (h2 t ht)).1 hm
   have hin := (ei y x).2 hs
   have hyx : (0 ≤ y ∧ y < 12) ∧ 0 ≤ x ∧ x < 12 := by omega
   have h0 := h y x hin.1.1 hin.1.2 hin.2.1 hin.2.2
   rw [h3 y x hyx.1 hyx.2] at h0
   have hn := (findFrom_none (inside y x) (l.take i) 0).1 (by unfold coverAt at h0; omega) t ht
   rw [hx] at hn
   cases hn
  ·
   intro h y x b1 b2 b3 b4
   have hs := (ei y x).1 ⟨⟨b1, b2⟩, b3, b4⟩
   rw [h3 y x (by omega) (by omega)]
   have hn : coverAt (l.take i) y x = -1 := (findFrom_none _ _ 0).2 fun t ht => by
    by_cases hx : inside y x t = true
    · exact absurd ((meets_iff hl (h2 t ht)).2 ⟨y, x, hs, hx⟩) (h t ht)
    · simpa using hx
   omega
 refine ⟨?_, fun h => ⟨?_, ?_, fun y x hy hx => ?_⟩⟩
 ·
  by_cases h : (laySlab i (rdS l i) g).2 = true
  ·
   rw [h]
   have := hok.1 h
   symm
   rw [Bool.not_eq_true']
   rw [List.any_eq_false]
   exact this
  ·
   rw [show (laySlab i (rdS l i) g).2 = false by simpa using h]
   symm
   rw [Bool.not_eq_false']
   rw [List.any_eq_true]
   apply Classical.byContradiction
   intro hn
   exact h (hok.2 fun t ht hm => hn ⟨t, ht, hm⟩)
 ·
  unfold laySlab
  rw [layY_len]; exact h1
 ·
  intro s hs
  rw [List.take_succ_eq_append_getElem hi] at hs
  rcases List.mem_append.1 hs with hs | hs
  · exact h2 s hs
  ·
   obtain rfl := List.mem_singleton.1 hs
   have : rdS l i = l[i] := rdI_get hi
   rwa [this] at hl
 ·
  have e := a2 h y x hy hx
  show cellAt (layY _ _ _ _ _ _).1 y x = _
  rw [e, h3 y x hy hx]
  have er : rdS l i = l[i] := rdI_get hi
  unfold coverAt
  rw [List.take_succ_eq_append_getElem hi, findFrom_snoc, ← er, List.length_take, show min i l.length = i by omega]
  by_cases hin : inside y x (rdS l i) = true
  ·
   rw [if_pos ((ei y x).2 hin)]
   have h0 := a1.1 h y x ((ei y x).2 hin).1.1 ((ei y x).2 hin).1.2 ((ei y x).2 hin).2.1 ((ei y x).2 hin).2.2
   rw [h3 y x hy hx] at h0
   have hn : findFrom (inside y x) 0 (l.take i) = -1 := by unfold coverAt at h0; omega
   rw [if_pos hn, if_pos hin]
   omega
  ·
   rw [if_neg (fun h' => hin ((ei y x).1 h'))]
   by_cases hn : findFrom (inside y x) 0 (l.take i) = -1
   · rw [if_pos hn, if_neg hin, hn]
   · rw [if_neg hn]
theorem layAll_spec {W H : Int} (hW : W ≤ 12) (hH : H ≤ 12) (l : List Sl) : ∀ (d i : Nat) (g : List Int), i + d = l.length → gridI l i g →
  (layAll W H l d i g).2 = loopV (fun i (_ : Unit) => sqC W H l i) (fun _ s => s) (fun _ _ => false) (fun _ => true) d i () ∧ ((layAll W H l d i g).2 = true → gridI l l.length (layAll W H l d i g).1)
 | 0, i, g, hi, hg => by
  obtain rfl : i = l.length := by omega
  exact ⟨rfl, fun _ => hg⟩
 | d + 1, i, g, hi, hg => by
  unfold layAll loopV
  by_cases h1 : lies W H (rdS l i) = true
  ·
   obtain ⟨a1, a2⟩ := lay_step (by omega) (lies12 hW hH h1) hg
   by_cases h2 : (decide (i = 0) || before (rdS l ((i : Int) - 1)) (rdS l i)) = true
   ·
    rw [if_pos (by rw [h1, h2]; rfl)]
    by_cases h3 : (laySlab i (rdS l i) g).2 = true
    ·
     rw [if_pos h3, if_pos (by unfold sqC; rw [h1, h2, ← a1, h3]; rfl)]
     exact layAll_spec hW hH l d (i + 1) _ (by omega) (a2 h3)
    ·
     have h3' : (laySlab i (rdS l i) g).2 = false := by simpa using h3
     rw [if_neg h3, if_neg (by unfold sqC; rw [← a1, h3']; simp)]
     exact ⟨rfl, fun h => by cases h⟩
   ·
    have h2' : (decide (i = 0) || before (rdS l ((i : Int) - 1)) (rdS l i)) = false := by simpa using h2
    rw [if_neg (by rw [h2']; simp), if_neg (by unfold sqC; rw [h2']; simp)]
    exact ⟨rfl, fun h => by cases h⟩
  ·
   have h1' : lies W H (rdS l i) = false := by simpa using h1
   rw [if_neg (by rw [h1']; simp), if_neg (by unfold sqC; rw [h1']; simp)]
   exact ⟨rfl, fun h => by cases h⟩
theorem grid0_cell (y x : Int) : cellAt grid0 y x = 0 := by
 unfold cellAt rd grid0
 rw [List.getD_eq_getElem?_getD, List.getElem?_replicate]
 split <;> rfl
theorem layV_spec (q : Sq) : (layV q).2 = sqB q ∧ (sqB q = true → gridI q.f2 q.f2.length (layV q).1) := by
 unfold layV sqB
 by_cases h0 : (inB q.f0 1 12 && inB q.f1 1 12 && decide (q.f2.length ≤ 60)) = true
 ·
  rw [if_pos h0, h0, Bool.true_and]
  rw [Bool.and_eq_true, Bool.and_eq_true] at h0
  have h1 := layAll_spec (inB_iff.1 h0.1.1).2 (inB_iff.1 h0.1.2).2 q.f2 q.f2.length 0 grid0 (by omega) ⟨by simp [grid0], fun s hs => by simp at hs, fun y x _ _ => by rw [grid0_cell]; simp [coverAt, findFrom]⟩
  refine ⟨h1.1, fun h => h1.2 ?_⟩
  rw [h1.1]
  exact h
 ·
  have h0' : (inB q.f0 1 12 && inB q.f1 1 12 && decide (q.f2.length ≤ 60)) = false := by simpa using h0
  rw [if_neg h0, h0', Bool.false_and]
  exact ⟨rfl, fun h => by cases h⟩
end Go.Proofs.Ytpelelodjigijaa.Q
