/- Plain facts: the reference's rows hold the numbers of ways. -/
import Derived.Test.YtabooaeobpgadaaQ10
import Derived.Test.YtabooaeobpgadaaQBSett
import Derived.Test.YtabooaeobpgadaaQBConv
namespace Go.Proofs.Ytabooaeobpgadaa.Q
open Go.RowKit Go.Proofs.YtabooaeobpgadaaW.PrintWords Go.Proofs.YtabooaeobpgadaaW.PrintLast Go.Proofs.YtabooaeobpgadaaW.PrintMore
set_option linter.unusedVariables false
set_option linter.unusedSimpArgs false

def tblS (N : Nat) (f : Nat → Int) : List Int := (List.range (N + 1)).map fun p => wrap64 (f p)
theorem tblS_len (N : Nat) (f : Nat → Int) : (tblS N f).length = N + 1 := by simp [tblS]
theorem tblS_get (N : Nat) (f : Nat → Int) {p : Nat} (h : p < N + 1) : rd (tblS N f) (p : Int) = wrap64 (f p) := by
  rw [rd_get (by rw [tblS_len]; exact h)]
  simp [tblS]
def partS (N n : Nat) (f : Nat → Int) : List Int := (List.range (N + 1)).map fun p => if p < n then wrap64 (f p) else 0
theorem partS_len (N n : Nat) (f : Nat → Int) : (partS N n f).length = N + 1 := by simp [partS]
theorem partS_zero (N : Nat) (f : Nat → Int) : partS N 0 f = List.replicate (N + 1) 0 := by
  apply List.ext_getElem <;> simp [partS]
theorem partS_full (N : Nat) (f : Nat → Int) : partS N (N + 1) f = tblS N f := by
  apply List.ext_getElem
  · simp [partS, tblS]
  · intro i h1 h2
    simp [partS] at h1
    simp [partS, tblS]
    omega
theorem partS_succ (N n : Nat) (f : Nat → Int) : (partS N n f).set n (wrap64 (f n)) = partS N (n + 1) f := by
  apply List.ext_getElem
  · simp [partS]
  · intro i h1 h2
    rw [List.getElem_set]
    simp only [partS, List.getElem_map, List.getElem_range]
    by_cases h : n = i
    · subst h
      simp
    · rw [if_neg h]
      by_cases h3 : i < n
      · rw [if_pos h3, if_pos (by omega)]
      · rw [if_neg h3, if_neg (by omega)]
theorem partS_same (N n : Nat) (f : Nat → Int) : (partS N n f).set n 0 = partS N n f := by
  apply List.ext_getElem
  · simp
  · intro i h1 h2
    rw [List.getElem_set]
    by_cases h : n = i
    · subst h
      simp [partS]
    · rw [if_neg h]
theorem rd_set {l : List Int} {i : Nat} (h : i < l.length) (x : Int) : rd (l.set i x) (i : Int) = x := by
  rw [rd_get (by simpa using h)]
  simp
def goodW (a2 : Int) (s : S66) (w c : Nat) : Prop := wrap64 (wrap64 s.f0 + a2) = (w : Int) ∧ wrap64 s.f1 = (c : Int) ∧ 1 ≤ w ∧ w ≤ 1000 ∧ c ≤ 1000
theorem way2 (l : List S66) (a2 : Int) (f : Nat → Int) (i w c N at_ : Nat) (r : Int × Int) (hN : N ≤ 100000) (hl : l.length ≤ 1000) (hi : i < l.length) (hg : goodW a2 (rd_T66 l (i : Int)) w c) (hat : at_ < N + 1)
    (hend : Ev (fun k => spec_WaysToFill.l1 k l a2 (N : Int) (tblS N f) (i : Int) (w : Int) (partS N (at_ + 1) (conv w c f)) ((at_ + 1 : Nat) : Int)) r) :
    ∀ d k, k + d = c + 1 → Ev (fun n => spec_WaysToFill.l2 n l a2 (N : Int) (tblS N f) (i : Int) (w : Int) ((partS N at_ (conv w c f)).set at_ (wrap64 (tryN w f at_ k))) (at_ : Int) (k : Int)) r := by
  obtain ⟨g1, g2, g3, g4, g5⟩ := hg
  have stop : ∀ k, tryN w f at_ k = tryN w f at_ (c + 1) → Ev (fun n => spec_WaysToFill.l1 n l a2 (N : Int) (tblS N f) (i : Int) (w : Int) ((partS N at_ (conv w c f)).set at_ (wrap64 (tryN w f at_ k))) (wrap64 ((at_ : Int) + 1))) r := by
    intro k e
    rw [e, w64_succ (by omega)]
    have h := partS_succ N at_ (conv w c f)
    unfold conv at h ⊢
    rw [h]
    exact hend
  have hpl : ∀ x, ((partS N at_ (conv w c f)).set at_ x).length = N + 1 := fun x => by rw [List.length_set, partS_len]
  intro d
  induction d with
  | zero =>
    intro k hk
    obtain rfl : k = c + 1 := by omega
    refine Ev.step (fun n => spec_WaysToFill.l2.eq_2 _ _ _ _ _ _ _ _ _ _) ?_
    rw [g2]
    exact Ev.ite_pos (by omega) (Ev.ite_pos (by omega) (Ev.ite_neg (by omega) (stop _ rfl)))
  | succ d ih =>
    intro k hk
    refine Ev.step (fun n => spec_WaysToFill.l2.eq_2 _ _ _ _ _ _ _ _ _ _) ?_
    obtain ⟨m, hm⟩ : ∃ m : Nat, m = k * w := ⟨_, rfl⟩
    have hmb : m ≤ 1000000 := by
      have h1 : k * w ≤ 1000 * 1000 := Nat.mul_le_mul (by omega) g4
      rw [hm]
      exact Nat.le_trans h1 (by decide)
    have e1 : wrap64 ((k : Int) * (w : Int)) = (m : Int) := by
      have h2 : (k : Int) * (w : Int) = (m : Int) := by rw [hm]; simp
      rw [h2]
      clear h2 hm
      exact w64 (by omega) (by omega)
    have hst : at_ < m → tryN w f at_ k = tryN w f at_ (c + 1) := by
      intro h3
      have h4 := tryN_stop (w := w) (p := at_) (k := k) f (by rw [← hm]; exact h3) (c + 1 - k)
      clear hm e1
      rw [show k + (c + 1 - k) = c + 1 by omega] at h4
      exact h4.symm
    have hfo : m ≤ at_ → tryN w f at_ (k + 1) = tryN w f at_ k + f (at_ - m) := by
      intro h3
      show tryN w f at_ k + (if k * w ≤ at_ then f (at_ - k * w) else 0) = _
      rw [← hm, if_pos h3]
    rw [g2, e1]
    clear e1 hm
    refine Ev.ite_pos (by omega) (Ev.ite_pos (by omega) (Ev.ite_pos (by omega) ?_))
    by_cases hkat : m ≤ at_
    · have ih' := ih (k + 1) (by omega)
      rw [hfo hkat, ← wrap_add] at ih'
      rw [w64 (x := (at_ : Int) - (m : Int)) (by omega) (by omega), show (at_ : Int) - (m : Int) = ((at_ - m : Nat) : Int) by omega, rd_set (by rw [partS_len]; exact hat), tblS_get N f (by omega), hpl, tblS_len, w64_succ (i := k) (by omega), Int.toNat_natCast, List.set_set]
      exact Ev.ite_pos (by omega) (Ev.ite_pos (by omega) (Ev.ite_pos (by omega) (Ev.ite_pos (by omega) (Ev.ite_pos (by omega) ih'))))
    · exact Ev.ite_neg (by omega) (stop k (hst (by omega)))
theorem way1 (l : List S66) (a2 : Int) (f : Nat → Int) (i w c N : Nat) (r : Int × Int) (hN : N ≤ 100000) (hl : l.length ≤ 1000) (hi : i < l.length) (hg : goodW a2 (rd_T66 l (i : Int)) w c)
    (hend : Ev (fun k => spec_WaysToFill.l0 k l a2 (N : Int) (tblS N (conv w c f)) ((i + 1 : Nat) : Int)) r) :
    ∀ d at_, at_ + d = N + 1 → Ev (fun n => spec_WaysToFill.l1 n l a2 (N : Int) (tblS N f) (i : Int) (w : Int) (partS N at_ (conv w c f)) (at_ : Int)) r := by
  intro d
  induction d with
  | zero =>
    intro at_ h
    obtain rfl : at_ = N + 1 := by omega
    refine Ev.step (fun n => spec_WaysToFill.l1.eq_2 _ _ _ _ _ _ _ _ _) (Ev.ite_neg (by omega) ?_)
    rw [partS_full, w64_succ (by omega)]
    exact hend
  | succ d ih =>
    intro at_ h
    refine Ev.step (fun n => spec_WaysToFill.l1.eq_2 _ _ _ _ _ _ _ _ _) (Ev.ite_pos (by omega) ?_)
    have h2 := way2 l a2 f i w c N at_ r hN hl hi hg (by omega) (ih (at_ + 1) (by omega)) (c + 1) 0 (by omega)
    rw [show wrap64 (tryN w f at_ 0) = 0 from w64 (x := 0) (by omega) (by omega), partS_same] at h2
    exact h2
def goodWs (a2 : Int) (l : List S66) (ws : List (Nat × Nat)) : Prop := ws.length = l.length ∧ ∀ i (h : i < ws.length), goodW a2 (rd_T66 l (i : Int)) ws[i].1 ws[i].2
theorem way0 (l : List S66) (a2 : Int) (ws : List (Nat × Nat)) (N : Nat) (hN : N ≤ 100000) (hl : l.length ≤ 1000) (hg : goodWs a2 l ws) :
    ∀ d i (f : Nat → Int), i + d = l.length → Ev (fun k => spec_WaysToFill.l0 k l a2 (N : Int) (tblS N f) (i : Int)) (wrap64 (fwd (ws.drop i) f N), 0) := by
  obtain ⟨hw, hgs⟩ := hg
  intro d
  induction d with
  | zero =>
    intro i f h
    refine Ev.step (fun n => spec_WaysToFill.l0.eq_2 _ _ _ _ _ _) (Ev.ite_neg (by omega) (Ev.ite_pos (by omega) (Ev.ite_pos (by rw [tblS_len]; omega) ?_)))
    rw [tblS_get N f (by omega), List.drop_eq_nil_of_le (by omega)]
    exact Ev.now _
  | succ d ih =>
    intro i f h
    have g := hgs i (by omega)
    refine Ev.step (fun n => spec_WaysToFill.l0.eq_2 _ _ _ _ _ _) ?_
    rw [w64_succ (i := N) (by omega), Int.toNat_natCast, g.1, ← partS_zero N (conv ws[i].1 ws[i].2 f), List.drop_eq_getElem_cons (by omega : i < ws.length)]
    exact Ev.ite_pos (by omega) (Ev.ite_pos (by omega) (Ev.ite_pos (by omega) (Ev.ite_pos (by omega) (way1 l a2 f i _ _ N _ hN hl (by omega) g (ih (i + 1) _ (by omega)) (N + 1) 0 (by omega)))))
end Go.Proofs.Ytabooaeobpgadaa.Q
