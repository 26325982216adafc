/- Plain facts on squares: how the reference lays slabs into its grid. -/
import Derived.Test.YtpelelodjigijaaXQ4
import Derived.Test.YtpelelodjigijaaXQ2
import Derived.Test.YtpelelodjigijaaXQ3
import Derived.Test.YtpelelodjigijaaXQ1
import Derived.Test.YtpelelodjigijaaXQBSlab
import Derived.Test.YtpelelodjigijaaXQBIn
namespace Go.Proofs.Ytpelelodjigijaa.Q
open Go.RowKit Go.Proofs.YtpelelodjigijaaW.PrintWords Go.Proofs.YtpelelodjigijaaW.PrintLast Go.Proofs.YtpelelodjigijaaW.PrintMore
set_option linter.unusedVariables false
set_option linter.unusedSimpArgs false
abbrev Sq := S30
theorem rdQ (q : Sq) : rd_T30 [q] 0 = q := rfl
theorem one_pos (q : Sq) : (0 : Int) < (([q] : List Sq).length : Int) := by simp
def small (a : Int) : Prop := -128 ≤ a ∧ a ≤ 127
def smallS (s : Sl) : Prop := small s.f0 ∧ small s.f1 ∧ small s.f2 ∧ small s.f3
theorem small_w {a : Int} (h : small a) : wrap64 a = a := w64 (by have := h.1; omega) (by have := h.2; omega)
theorem i8w {a : Int} (h : small a) : IntKind.i8.wrap a = a := by
 obtain ⟨h0, h1⟩ := h
 unfold IntKind.wrap
 have e : (2 ^ IntKind.i8.bits : Int) = 256 := rfl
 have e2 : (2 ^ (IntKind.i8.bits - 1) : Int) = 128 := rfl
 have e3 : IntKind.i8.signed = true := rfl
 rw [e, e2, e3]
 simp only [Bool.true_and]
 by_cases hn : 0 ≤ a
 · rw [Int.emod_eq_of_lt hn (by omega), if_neg (by simp; omega)]
 ·
  have hm : a % 256 = a + 256 := by omega
  rw [hm, if_pos (by simp; omega)]
  omega
def lies (W H : Int) (s : Sl) : Bool := decide (0 ≤ s.f0 ∧ 0 ≤ s.f1 ∧ 1 ≤ s.f2 ∧ 1 ≤ s.f3 ∧ s.f0 + s.f2 ≤ W ∧ s.f1 + s.f3 ≤ H)
def before (a b : Sl) : Bool := decide (a.f1 < b.f1 ∨ a.f1 = b.f1 ∧ a.f0 < b.f0)
def inside (y x : Int) (s : Sl) : Bool := decide (s.f0 ≤ x ∧ x < s.f0 + s.f2 ∧ s.f1 ≤ y ∧ y < s.f1 + s.f3)
def meets (s t : Sl) : Bool := decide (s.f0 < t.f0 + t.f2 ∧ t.f0 < s.f0 + s.f2 ∧ s.f1 < t.f1 + t.f3 ∧ t.f1 < s.f1 + s.f3)
theorem lies_val (q : Sq) (s : Sl) (hq : small q.f0 ∧ small q.f1) (hs : smallS s) : spec_l01Lies.f [q] s.f0 s.f1 s.f2 s.f3 = some (lies q.f0 q.f1 s) := by
 obtain ⟨h0, h1, h2, h3⟩ := hs
 unfold spec_l01Lies.f lies
 rw [rdQ, small_w h0, small_w h1, small_w h2, small_w h3, small_w hq.1, small_w hq.2, w64 (x := s.f0 + s.f2) (by have := h0.1; have := h2.1; omega) (by have := h0.2; have := h2.2; omega), w64 (x := s.f1 + s.f3) (by have := h1.1; have := h3.1; omega) (by have := h1.2; have := h3.2; omega)]
 by_cases c0 : s.f0 < 0
 · rw [if_pos c0, decide_eq_false (by omega)]
 ·
  rw [if_neg c0]
  by_cases c1 : s.f1 < 0
  · rw [if_pos c1, decide_eq_false (by omega)]
  ·
   rw [if_neg c1]
   by_cases c2 : s.f2 < 1
   · rw [if_pos c2, decide_eq_false (by omega)]
   ·
    rw [if_neg c2]
    by_cases c3 : s.f3 < 1
    · rw [if_pos c3, decide_eq_false (by omega)]
    ·
     rw [if_neg c3, if_pos (one_pos q)]
     by_cases c4 : s.f0 + s.f2 ≤ q.f0
     ·
      rw [if_pos c4]
      congr 1
      exact decide_eq_decide.2 ⟨fun h => ⟨by omega, by omega, by omega, by omega, c4, h⟩, fun h => h.2.2.2.2.2⟩
     · rw [if_neg c4, decide_eq_false (by omega)]
theorem before_val (a b : Sl) : spec_l01Before.f a.f0 a.f1 a.f2 a.f3 b.f0 b.f1 b.f2 b.f3 = some (before a b) := by
 unfold spec_l01Before.f before
 by_cases h : a.f1 < b.f1
 · rw [if_pos h, decide_eq_true (Or.inl h)]
 ·
  rw [if_neg h]
  by_cases h2 : a.f1 = b.f1
  ·
   rw [if_pos h2]
   congr 1
   exact decide_eq_decide.2 ⟨fun h3 => Or.inr ⟨h2, h3⟩, fun h3 => by rcases h3 with h3 | h3 <;> omega⟩
  · rw [if_neg h2, decide_eq_false (by omega)]
theorem edge_val (a : Int) : spec_l01Edge.f a = some (inB a 1 12) := by
 unfold spec_l01Edge.f
 rw [l00In_val]
 rfl
def layX (i y : Int) : Nat → Int → List Int → List Int × Bool
 | 0, _, g => (g, true)
 | d + 1, x, g => if rd g (y * 12 + x) = 0 then layX i y d (x + 1) (g.set (y * 12 + x).toNat (i + 1)) else (g, false)
def layY (i x0 : Int) (w : Nat) : Nat → Int → List Int → List Int × Bool
 | 0, _, g => (g, true)
 | d + 1, y, g => if (layX i y w x0 g).2 = true then layY i x0 w d (y + 1) (layX i y w x0 g).1 else ((layX i y w x0 g).1, false)
def laySlab (i : Int) (s : Sl) (g : List Int) : List Int × Bool := layY i s.f0 s.f2.toNat s.f3.toNat s.f1 g
def rdS (l : List Sl) (i : Int) : Sl := rd_T38 l i
def layAll (W H : Int) (l : List Sl) : Nat → Nat → List Int → List Int × Bool
 | 0, _, g => (g, true)
 | d + 1, i, g => if (lies W H (rdS l i) && (decide (i = 0) || before (rdS l ((i : Int) - 1)) (rdS l i))) = true then
   (if (laySlab i (rdS l i) g).2 = true then layAll W H l d (i + 1) (laySlab i (rdS l i) g).1 else ((laySlab i (rdS l i) g).1, false)) else (g, false)
def grid0 : List Int := List.replicate 144 0
def layV (q : Sq) : List Int × Bool := if (inB q.f0 1 12 && inB q.f1 1 12 && decide (q.f2.length ≤ 60)) = true then layAll q.f0 q.f1 q.f2 q.f2.length 0 grid0 else (grid0, false)
theorem layX_len (i y : Int) : ∀ d x g, (layX i y d x g).1.length = g.length
 | 0, _, _ => rfl
 | d + 1, x, g => by
  unfold layX
  split
  · rw [layX_len i y d, List.length_set]
  · rfl
theorem layY_len (i x0 : Int) (w : Nat) : ∀ d y g, (layY i x0 w d y g).1.length = g.length
 | 0, _, _ => rfl
 | d + 1, y, g => by
  unfold layY
  split
  · rw [layY_len i x0 w d, layX_len]
  · exact layX_len _ _ _ _ _
theorem layAll_len (W H : Int) (l : List Sl) : ∀ d i g, (layAll W H l d i g).1.length = g.length
 | 0, _, _ => rfl
 | d + 1, i, g => by
  unfold layAll
  split
  ·
   split
   ·
    rw [layAll_len W H l d]
    exact layY_len _ _ _ _ _ _
   · exact layY_len _ _ _ _ _ _
  · rfl
theorem layV_len (q : Sq) : (layV q).1.length = 144 := by
 unfold layV
 split
 ·
  rw [layAll_len]
  simp [grid0]
 · simp [grid0]
def smallQ (q : Sq) : Prop := small q.f0 ∧ small q.f1 ∧ q.f2.length ≤ 1048576 ∧ ∀ s ∈ q.f2, smallS s
theorem smallQ.at {q : Sq} (h : smallQ q) {i : Nat} (hi : i < q.f2.length) : smallS (rdS q.f2 (i : Int)) := by
 unfold rdS
 rw [rdI_get hi]
 exact h.2.2.2 _ (List.getElem_mem _)
theorem lay2 (q : Sq) (i : Nat) (y : Int) (g0 : List Int) (s0 s1 s2 s3 : Int) (r : List Int × Bool) (hi : i ≤ 1048576) (hg0 : g0.length = 144) (hy : 0 ≤ y ∧ y < 12) (hs : small s0 ∧ 0 ≤ s0 ∧ 1 ≤ s2 ∧ s0 + s2 ≤ 12) :
  ∀ (d : Nat) (x : Int) (g : List Int), 0 ≤ x → x + (d : Int) = s0 + s2 → g.length = 144 →
   ((layX i y d x g).2 = true → Ev (fun k => spec_l01Lay.l1 k [q] (i : Int) (y + 1) g0 (layX i y d x g).1 s0 s1 s2 s3) r) →
   ((layX i y d x g).2 = false → r = ((layX i y d x g).1, false)) →
   Ev (fun k => spec_l01Lay.l2 k [q] (i : Int) y x g0 g s0 s1 s2 s3) r := by
 obtain ⟨hs0, hs1, hs2, hs3⟩ := hs
 have ew : IntKind.i8.wrap (s0 + s2) = s0 + s2 := i8w ⟨by omega, by omega⟩
 intro d
 induction d with
 | zero =>
  intro x g hx hd hg h1 h2
  refine Ev.step (fun k => spec_l01Lay.l2.eq_2 _ _ _ _ _ _ _ _ _ _ _) ?_
  rw [ew, i8w (a := y + 1) ⟨by omega, by omega⟩]
  exact Ev.ite_neg (by omega) (h1 rfl)
 | succ d ih =>
  intro x g hx hd hg h1 h2
  refine Ev.step (fun k => spec_l01Lay.l2.eq_2 _ _ _ _ _ _ _ _ _ _ _) ?_
  rw [ew, i8w (a := x + 1) ⟨by omega, by omega⟩]
  refine Ev.ite_pos (by omega) (Ev.ite_pos hy.1 (Ev.ite_pos hy.2 (Ev.ite_pos hx (Ev.ite_pos (by omega) (Ev.ite_pos (by omega) ?_)))))
  by_cases hc : rd g (y * 12 + x) = 0
  ·
   have e : layX i y (d + 1) x g = layX i y d (x + 1) (g.set (y * 12 + x).toNat (i + 1)) := by rw [layX, if_pos hc]
   rw [e] at h1 h2
   rw [w64_succ (i := i) (by omega), show ((i + 1 : Nat) : Int) = (i : Int) + 1 by omega]
   exact Ev.ite_pos hc (ih (x + 1) _ (by omega) (by omega) (by rw [List.length_set]; exact hg) h1 h2)
  ·
   have e : layX i y (d + 1) x g = (g, false) := by rw [layX, if_neg hc]
   rw [e] at h2
   rw [h2 rfl]
   exact Ev.ite_neg hc (Ev.ite_pos hg (Ev.ite_pos hg0 (Ev.now _)))
theorem lay1 (q : Sq) (i : Nat) (g0 : List Int) (s : Sl) (r : List Int × Bool) (hi : i ≤ 1048576) (hg0 : g0.length = 144) (hl : lies 12 12 s = true) :
  ∀ (d : Nat) (y : Int) (g : List Int), 0 ≤ y → y + (d : Int) = s.f1 + s.f3 → g.length = 144 →
   ((layY i s.f0 s.f2.toNat d y g).2 = true → Ev (fun k => spec_l01Lay.l0 k [q] ((i + 1 : Nat) : Int) g0 (layY i s.f0 s.f2.toNat d y g).1) r) →
   ((layY i s.f0 s.f2.toNat d y g).2 = false → r = ((layY i s.f0 s.f2.toNat d y g).1, false)) →
   Ev (fun k => spec_l01Lay.l1 k [q] (i : Int) y g0 g s.f0 s.f1 s.f2 s.f3) r := by
 have hl' := of_decide_eq_true hl
 have ew : IntKind.i8.wrap (s.f1 + s.f3) = s.f1 + s.f3 := i8w ⟨by omega, by omega⟩
 intro d
 induction d with
 | zero =>
  intro y g hy hd hg h1 h2
  refine Ev.step (fun k => spec_l01Lay.l1.eq_2 _ _ _ _ _ _ _ _ _ _) ?_
  rw [ew, w64_succ (i := i) (by omega)]
  exact Ev.ite_neg (by omega) (h1 rfl)
 | succ d ih =>
  intro y g hy hd hg h1 h2
  refine Ev.step (fun k => spec_l01Lay.l1.eq_2 _ _ _ _ _ _ _ _ _ _) ?_
  rw [ew]
  refine Ev.ite_pos (by omega) (lay2 q i y g0 s.f0 s.f1 s.f2 s.f3 r hi hg0 ⟨hy, by omega⟩ ⟨⟨by omega, by omega⟩, by omega, by omega, by omega⟩ s.f2.toNat s.f0 g (by omega) (by omega) hg ?_ ?_)
  ·
   intro hx
   have e : layY i s.f0 s.f2.toNat (d + 1) y g = layY i s.f0 s.f2.toNat d (y + 1) (layX i y s.f2.toNat s.f0 g).1 := by rw [layY, if_pos hx]
   rw [e] at h1 h2
   exact ih (y + 1) _ (by omega) (by omega) (by rw [layX_len]; exact hg) h1 h2
  ·
   intro hx
   have e : layY i s.f0 s.f2.toNat (d + 1) y g = ((layX i y s.f2.toNat s.f0 g).1, false) := by rw [layY, if_neg (by simp [hx])]
   rw [e] at h2
   exact h2 rfl
theorem lay0 (q : Sq) (g0 : List Int) (hq : smallQ q) (hW : q.f0 ≤ 12) (hH : q.f1 ≤ 12) (hg0 : g0.length = 144) :
  ∀ (d i : Nat) (g : List Int), i + d = q.f2.length → g.length = 144 → Ev (fun k => spec_l01Lay.l0 k [q] (i : Int) g0 g) (layAll q.f0 q.f1 q.f2 d i g) := by
 obtain ⟨q0, q1, q2, q3⟩ := hq
 intro d
 induction d with
 | zero =>
  intro i g hi hg
  refine Ev.step (fun k => spec_l01Lay.l0.eq_2 _ _ _ _ _) ?_
  rw [rdQ]
  exact Ev.ite_pos (one_pos q) (Ev.ite_neg (by omega) (Ev.ite_pos hg (Ev.ite_pos hg0 (Ev.now _))))
 | succ d ih =>
  intro i g hi hg
  have hs := smallQ.at ⟨q0, q1, q2, q3⟩ (show i < q.f2.length by omega)
  have hv := lies_val q (rdS q.f2 (i : Int)) ⟨q0, q1⟩ hs
  refine Ev.step (fun k => spec_l01Lay.l0.eq_2 _ _ _ _ _) ?_
  rw [rdQ]
  refine Ev.ite_pos (one_pos q) (Ev.ite_pos (by omega) (Ev.ite_pos (by omega) (Ev.call hv ?_)))
  have no : layAll q.f0 q.f1 q.f2 (d + 1) i g = (g, false) → Ev (fun k => spec_l01Lay.j2 k [q] (i : Int) true g0 g (rdS q.f2 (i : Int)).f0 (rdS q.f2 (i : Int)).f1 (rdS q.f2 (i : Int)).f2 (rdS q.f2 (i : Int)).f3) (layAll q.f0 q.f1 q.f2 (d + 1) i g) := by
   intro e
   rw [e]
   exact Ev.step (fun k => spec_l01Lay.j2.eq_2 _ _ _ _ _ _ _ _ _ _) (Ev.ite_pos rfl (Ev.ite_pos hg (Ev.ite_pos hg0 (Ev.now _))))
  by_cases hl : lies q.f0 q.f1 (rdS q.f2 (i : Int)) = true
  ·
   refine Ev.ite_pos hl ?_
   have hl12 : lies 12 12 (rdS q.f2 (i : Int)) = true := by
    have h := of_decide_eq_true hl
    exact decide_eq_true (by omega)
   have h12 := of_decide_eq_true hl12
   have yes : (decide (i = 0) || before (rdS q.f2 ((i : Int) - 1)) (rdS q.f2 (i : Int))) = true → Ev (fun k => spec_l01Lay.j2 k [q] (i : Int) false g0 g (rdS q.f2 (i : Int)).f0 (rdS q.f2 (i : Int)).f1 (rdS q.f2 (i : Int)).f2 (rdS q.f2 (i : Int)).f3) (layAll q.f0 q.f1 q.f2 (d + 1) i g) := by
    intro hb
    have e : layAll q.f0 q.f1 q.f2 (d + 1) i g = (if (laySlab i (rdS q.f2 i) g).2 = true then layAll q.f0 q.f1 q.f2 d (i + 1) (laySlab i (rdS q.f2 i) g).1 else ((laySlab i (rdS q.f2 i) g).1, false)) := by
     rw [layAll, if_pos (by rw [hl, hb]; rfl)]
    rw [e]
    refine Ev.step (fun k => spec_l01Lay.j2.eq_2 _ _ _ _ _ _ _ _ _ _) (Ev.ite_neg (by decide) ?_)
    refine lay1 q i g0 (rdS q.f2 (i : Int)) _ (by omega) hg0 hl12 (rdS q.f2 (i : Int)).f3.toNat (rdS q.f2 (i : Int)).f1 g (by omega) (by omega) hg ?_ ?_
    ·
     intro hx
     have hx' : (laySlab i (rdS q.f2 i) g).2 = true := hx
     rw [if_pos hx']
     exact ih (i + 1) _ (by omega) (by rw [layY_len]; exact hg)
    ·
     intro hx
     have hx' : ¬ (laySlab i (rdS q.f2 i) g).2 = true := by simp [show (laySlab i (rdS q.f2 i) g).2 = false from hx]
     rw [if_neg hx']
     rfl
   by_cases h0 : (i : Int) > 0
   ·
    rw [w64 (x := (i : Int) - 1) (by omega) (by omega)]
    refine Ev.ite_pos h0 (Ev.ite_pos (by omega) (Ev.ite_pos (by omega) (Ev.call (before_val (rdS q.f2 ((i : Int) - 1)) (rdS q.f2 (i : Int))) ?_)))
    by_cases hb : before (rdS q.f2 ((i : Int) - 1)) (rdS q.f2 (i : Int)) = true
    ·
     rw [hb]
     exact yes (by rw [hb, Bool.or_true])
    ·
     have hb' : before (rdS q.f2 ((i : Int) - 1)) (rdS q.f2 (i : Int)) = false := by simpa using hb
     rw [hb']
     exact no (by rw [layAll, if_neg (by rw [hl, hb']; simp; omega)])
   · exact Ev.ite_neg h0 (yes (by rw [decide_eq_true (show i = 0 by omega)]; rfl))
  · exact Ev.ite_neg hl (no (by rw [layAll, if_neg (by rw [show lies q.f0 q.f1 (rdS q.f2 (i : Int)) = false by simpa using hl]; simp)]))
theorem lay_val (q : Sq) (hq : smallQ q) : Ev (fun k => spec_l01Lay.f k [q]) (layV q) := by
 unfold spec_l01Lay.f
 have hz : arrZ 144 = grid0 := rfl
 have hz2 : grid0.length = 144 := by simp [grid0]
 rw [rdQ, small_w hq.1, small_w hq.2.1, hz]
 have no : layV q = (grid0, false) → Ev (fun k => spec_l01Lay.j0 k [q] true grid0 grid0) (layV q) := by
  intro e
  rw [e]
  exact Ev.step (fun k => spec_l01Lay.j0.eq_2 _ _ _ _ _) (Ev.ite_pos rfl (Ev.ite_pos hz2 (Ev.ite_pos hz2 (Ev.now _))))
 refine Ev.ite_pos (one_pos q) (Ev.call (edge_val _) ?_)
 by_cases h0 : inB q.f0 1 12 = true
 ·
  refine Ev.ite_pos h0 (Ev.call (edge_val _) ?_)
  by_cases h1 : inB q.f1 1 12 = true
  ·
   refine Ev.ite_pos h1 ?_
   by_cases h2 : (q.f2.length : Int) > 60
   ·
    rw [decide_eq_true h2]
    exact no (by unfold layV; rw [if_neg (by simp; intro _ _; omega)])
   ·
    rw [decide_eq_false h2]
    have e : layV q = layAll q.f0 q.f1 q.f2 q.f2.length 0 grid0 := by unfold layV; rw [if_pos (by rw [h0, h1]; simp; omega)]
    rw [e]
    exact Ev.step (fun k => spec_l01Lay.j0.eq_2 _ _ _ _ _) (Ev.ite_neg (by decide) (lay0 q grid0 hq (inB_iff.1 h0).2 (inB_iff.1 h1).2 hz2 q.f2.length 0 grid0 (by omega) hz2))
  · exact Ev.ite_neg h1 (no (by unfold layV; rw [if_neg (by simp [h1])]))
 · exact Ev.ite_neg h0 (no (by unfold layV; rw [if_neg (by simp [h0])]))
end Go.Proofs.Ytpelelodjigijaa.Q
