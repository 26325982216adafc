/- Plain facts: which slabs can be put, for program and reference. -/
import Derived.Test.YtpelelodjigijaaXQ10
import Derived.Test.YtpelelodjigijaaXQ5
import Derived.Test.YtpelelodjigijaaXQ11
import Derived.Test.YtpelelodjigijaaXQBSquare
namespace Go.Proofs.Ytpelelodjigijaa.Q
open Go.RowKit Go.Proofs.YtpelelodjigijaaW.PrintWords Go.Proofs.YtpelelodjigijaaW.PrintLast Go.Proofs.YtpelelodjigijaaW.PrintMore
set_option linter.unusedVariables false
set_option linter.unusedSimpArgs false
theorem specOk (q : Sq) (hq : smallQ q) : Ev (fun k => spec_l01Ok.f k [q]) (sqB q) := by
 unfold spec_l01Ok.f
 refine Ev.bind (lay_val q hq) (Ev.ite_pos (layV_len q) (Ev.eq_ (Ev.now _) (layV_spec q).1))
theorem sqB_edges {q : Sq} (h : sqB q = true) : (1 ≤ q.f0 ∧ q.f0 ≤ 12) ∧ (1 ≤ q.f1 ∧ q.f1 ≤ 12) ∧ q.f2.length ≤ 60 := by
 unfold sqB at h
 rw [Bool.and_eq_true, Bool.and_eq_true, Bool.and_eq_true, decide_eq_true_eq] at h
 exact ⟨inB_iff.1 h.1.1.1, inB_iff.1 h.1.1.2, h.1.2⟩
theorem sqB_grid {q : Sq} (h : sqB q = true) : gridI q.f2 q.f2.length (layV q).1 := (layV_spec q).2 h
theorem sqB_lies {q : Sq} (h : sqB q = true) : ∀ s ∈ q.f2, lies 12 12 s = true := by
 have h1 := (sqB_grid h).2.1
 rwa [List.take_length] at h1
theorem sqB_cell {q : Sq} (h : sqB q = true) {y x : Int} (hy : 0 ≤ y ∧ y < 12) (hx : 0 ≤ x ∧ x < 12) : cellAt (layV q).1 y x = coverAt q.f2 y x + 1 := by
 have h1 := (sqB_grid h).2.2 y x hy hx
 rwa [List.take_length] at h1
def canB (q : Sq) (s : Sl) : Bool := lies q.f0 q.f1 s && !q.f2.any (meets s)
theorem implCan (q : Sq) (s : Sl) (hq : smallQ q) (hs : smallS s) : Ev (fun k => impl_Square_canPut.f k q.f0 q.f1 q.f2 s.f0 s.f1 s.f2 s.f3) (canB q s) := by
 unfold impl_Square_canPut.f canB
 refine Ev.call (isIn_val q s ⟨hq.1, hq.2.1⟩ hs q.f2) ?_
 by_cases h : lies q.f0 q.f1 s = true
 ·
  refine Ev.ite_pos h (Ev.bind (anyMeets s q.f2 hs hq.2.2.1 hq.2.2.2) (Ev.eq_ (Ev.now _) ?_))
  rw [h, Bool.true_and]
 ·
  refine Ev.ite_neg h (Ev.eq_ (Ev.now _) ?_)
  rw [show lies q.f0 q.f1 s = false by simpa using h, Bool.false_and]
theorem can_row (g : List Int) (s : Sl) (hg : g.length = 144) (hl : lies 12 12 s = true) (y : Int) (hy : 0 ≤ y ∧ y < 12) (r : Bool) :
  ∀ (d : Nat) (x : Int), 0 ≤ x → x + (d : Int) = s.f0 + s.f2 → ((∀ x', x ≤ x' → x' < x + d → cellAt g y x' = 0) → Ev (fun k => spec_l01Can.l0 k (y + 1) s.f0 s.f1 s.f2 s.f3 g) r) → ((¬ ∀ x', x ≤ x' → x' < x + d → cellAt g y x' = 0) → r = false) →
   Ev (fun k => spec_l01Can.l1 k y x s.f0 s.f1 s.f2 s.f3 g) r := by
 have hl' := of_decide_eq_true hl
 have ew : IntKind.i8.wrap (s.f0 + s.f2) = s.f0 + s.f2 := i8w ⟨by omega, by omega⟩
 intro d
 induction d with
 | zero =>
  intro x hx hd h1 h2
  refine Ev.step (fun k => spec_l01Can.l1.eq_2 _ _ _ _ _ _ _ _) ?_
  rw [ew, i8w (a := y + 1) ⟨by omega, by omega⟩]
  exact Ev.ite_neg (by omega) (h1 (fun x' a b => by omega))
 | succ d ih =>
  intro x hx hd h1 h2
  refine Ev.step (fun k => spec_l01Can.l1.eq_2 _ _ _ _ _ _ _ _) ?_
  rw [ew, i8w (a := x + 1) ⟨by omega, by omega⟩]
  refine Ev.ite_pos (by omega) (Ev.ite_pos hy.1 (Ev.ite_pos hy.2 (Ev.ite_pos hx (Ev.ite_pos (by omega) (Ev.ite_pos (by omega) ?_)))))
  by_cases hc : rd g (y * 12 + x) = 0
  ·
   refine Ev.ite_pos hc (ih (x + 1) (by omega) (by omega) (fun h => h1 fun x' a b => ?_) (fun h => h2 fun h' => h fun x' a b => h' x' (by omega) (by omega)))
   by_cases e : x' = x
   · rw [e]; exact hc
   · exact h x' (by omega) (by omega)
  ·
   rw [h2 (fun h => hc (h x (by omega) (by omega)))]
   exact Ev.ite_neg hc (Ev.now _)
theorem can_all (g : List Int) (s : Sl) (hg : g.length = 144) (hl : lies 12 12 s = true) (r : Bool) :
  ∀ (d : Nat) (y : Int), 0 ≤ y → y + (d : Int) = s.f1 + s.f3 → ((∀ y' x', y ≤ y' → y' < y + d → s.f0 ≤ x' → x' < s.f0 + s.f2 → cellAt g y' x' = 0) → r = true) → ((¬ ∀ y' x', y ≤ y' → y' < y + d → s.f0 ≤ x' → x' < s.f0 + s.f2 → cellAt g y' x' = 0) → r = false) →
   Ev (fun k => spec_l01Can.l0 k y s.f0 s.f1 s.f2 s.f3 g) r := by
 have hl' := of_decide_eq_true hl
 have ew : IntKind.i8.wrap (s.f1 + s.f3) = s.f1 + s.f3 := i8w ⟨by omega, by omega⟩
 intro d
 induction d with
 | zero =>
  intro y hy hd h1 h2
  refine Ev.step (fun k => spec_l01Can.l0.eq_2 _ _ _ _ _ _ _) ?_
  rw [ew, h1 (fun y' x' a b => by omega)]
  exact Ev.ite_neg (by omega) (Ev.now _)
 | succ d ih =>
  intro y hy hd h1 h2
  refine Ev.step (fun k => spec_l01Can.l0.eq_2 _ _ _ _ _ _ _) ?_
  rw [ew]
  refine Ev.ite_pos (by omega) (can_row g s hg hl y ⟨hy, by omega⟩ r s.f2.toNat s.f0 (by omega) (by omega) (fun h => ?_) (fun h => h2 fun h' => h fun x' a b => h' y x' (by omega) (by omega) a (by omega)))
  refine ih (y + 1) (by omega) (by omega) (fun h' => h1 fun y' x' a b a' b' => ?_) (fun h' => h2 fun h3 => h' fun y' x' a b a' b' => h3 y' x' (by omega) (by omega) a' b')
  by_cases e : y' = y
  · rw [e]; exact h x' a' (by omega)
  · exact h' y' x' (by omega) (by omega) a' b'
theorem specCan (q : Sq) (s : Sl) (hq : smallQ q) (hs : smallS s) (hv : sqB q = true) : Ev (fun k => spec_l01Can.f k [q] s.f0 s.f1 s.f2 s.f3) (canB q s) := by
 obtain ⟨⟨w0, w1⟩, ⟨v0, v1⟩, -⟩ := sqB_edges hv
 unfold spec_l01Can.f canB
 refine Ev.call (lies_val q s ⟨hq.1, hq.2.1⟩ hs) ?_
 by_cases h : lies q.f0 q.f1 s = true
 ·
  have hl := lies12 w1 v1 h
  have hl' := of_decide_eq_true hl
  refine Ev.ite_pos h (Ev.bind (lay_val q hq) (Ev.ite_pos (layV_len q) ?_))
  have key : (∀ y' x', s.f1 ≤ y' → y' < s.f1 + (s.f3.toNat : Int) → s.f0 ≤ x' → x' < s.f0 + s.f2 → cellAt (layV q).1 y' x' = 0) ↔ (lies q.f0 q.f1 s && !q.f2.any (meets s)) = true := by
   rw [h, Bool.true_and, Bool.not_eq_true', List.any_eq_false]
   constructor
   ·
    intro h1 t ht hm
    obtain ⟨y, x, hx1, hx2⟩ := (meets_iff hl (sqB_lies hv t ht)).1 hm
    have hx1' := of_decide_eq_true hx1
    have h0 := h1 y x (by omega) (by omega) (by omega) (by omega)
    rw [sqB_cell hv (by omega) (by omega)] at h0
    have hn := (findFrom_none (inside y x) q.f2 0).1 (by unfold coverAt at h0; omega) t ht
    rw [hx2] at hn
    cases hn
   ·
    intro h1 y x a b a' b'
    rw [sqB_cell hv (by omega) (by omega)]
    have hn : coverAt q.f2 y x = -1 := (findFrom_none _ _ 0).2 fun t ht => by
     by_cases hx : inside y x t = true
     · exact absurd ((meets_iff hl (sqB_lies hv t ht)).2 ⟨y, x, decide_eq_true (by omega), hx⟩) (h1 t ht)
     · simpa using hx
    omega
  refine can_all (layV q).1 s (layV_len q) hl _ s.f3.toNat s.f1 (by omega) (by omega) (fun h1 => key.1 h1) (fun h1 => ?_)
  by_cases h2 : (lies q.f0 q.f1 s && !q.f2.any (meets s)) = true
  · exact absurd (key.2 h2) h1
  · simpa using h2
 ·
  refine Ev.ite_neg h (Ev.eq_ (Ev.now _) ?_)
  rw [show lies q.f0 q.f1 s = false by simpa using h, Bool.false_and]
end Go.Proofs.Ytpelelodjigijaa.Q
