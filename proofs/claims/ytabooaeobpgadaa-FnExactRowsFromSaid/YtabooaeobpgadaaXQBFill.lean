/- Plain facts on the program's table of fillings: what impl.fillings comes to. -/
import Derived.Test.YtabooaeobpgadaaXQ14
import Derived.Test.YtabooaeobpgadaaXQBSett
namespace Go.Proofs.Ytabooaeobpgadaa.Q
open Go.RowKit Go.Proofs.YtabooaeobpgadaaW.PrintWords Go.Proofs.YtabooaeobpgadaaW.PrintLast Go.Proofs.YtabooaeobpgadaaW.PrintMore
set_option linter.unusedVariables false
set_option linter.unusedSimpArgs false
abbrev Fl := S71
def zFl : Fl := z71
def rdF (l : List Fl) (i : Int) : Fl := rd_T71 l i
theorem rdF_get {l : List Fl} {i : Nat} (h : i < l.length) : rdF l (i : Int) = l[i] := by
 unfold rdF rd_T71
 rw [Int.toNat_natCast, List.getD_eq_getElem?_getD, List.getElem?_eq_getElem h]
 rfl
def stepK (below : List Fl) (p k : Nat) (own : Fl) : Fl :=
 if (rdF below (p : Int)).f0 = 0 then own
 else if own.f0 = 0 ∨ wrap64 ((rdF below (p : Int)).f1 + k) < own.f1 then ⟨wrap64 (own.f0 + (rdF below (p : Int)).f0), wrap64 ((rdF below (p : Int)).f1 + k)⟩
 else ⟨wrap64 (own.f0 + (rdF below (p : Int)).f0), own.f1⟩
def foldK (below : List Fl) (w at_ : Nat) : Nat → Fl
 | 0 => zFl
 | k + 1 => if k * w ≤ at_ then stepK below (at_ - k * w) k (foldK below w at_ k) else foldK below w at_ k
theorem foldK_stop (below : List Fl) {w at_ k : Nat} (h : at_ < k * w) : ∀ d, foldK below w at_ (k + d) = foldK below w at_ k
 | 0 => rfl
 | d + 1 => by
  have h2 : k * w ≤ (k + d) * w := Nat.mul_le_mul_right _ (by omega)
  show (if (k + d) * w ≤ at_ then _ else foldK below w at_ (k + d)) = _
  rw [if_neg (by omega)]
  exact foldK_stop below h d
def rowK (below : List Fl) (w c L : Nat) : List Fl := (List.range (L + 1)).map fun at_ => foldK below w at_ (c + 1)
def baseK (L : Nat) : List Fl := (List.replicate (L + 1) zFl).set 0 ⟨1, 0⟩
def rowsK (L : Nat) : List (Nat × Nat) → List (List Fl)
 | [] => [baseK L]
 | (w, c) :: t => rowK ((rowsK L t).headD []) w c L :: rowsK L t
theorem rowsK_len (L : Nat) : ∀ ws, (rowsK L ws).length = ws.length + 1
 | [] => rfl
 | (w, c) :: t => by simp [rowsK, rowsK_len L t]
theorem rowsK_head (L : Nat) : ∀ ws, ((rowsK L ws).headD []).length = L + 1
 | [] => by simp [rowsK, baseK]
 | (w, c) :: t => by simp [rowsK, rowK]
def partK (below : List Fl) (w c L n : Nat) : List Fl := (List.range (L + 1)).map fun j => if j < n then foldK below w j (c + 1) else zFl
theorem partK_len (below : List Fl) (w c L n : Nat) : (partK below w c L n).length = L + 1 := by simp [partK]
theorem partK_zero (below : List Fl) (w c L : Nat) : partK below w c L 0 = List.replicate (L + 1) zFl := by
 apply List.ext_getElem <;> simp [partK]
theorem partK_full (below : List Fl) (w c L : Nat) : partK below w c L (L + 1) = rowK below w c L := by
 apply List.ext_getElem
 · simp [partK, rowK]
 ·
  intro i h1 h2
  simp [partK] at h1
  simp [partK, rowK]
  omega
theorem partK_succ (below : List Fl) (w c L n : Nat) (hn : n < L + 1) : (partK below w c L n).set n (foldK below w n (c + 1)) = partK below w c L (n + 1) := by
 apply List.ext_getElem
 · simp [partK]
 ·
  intro i h1 h2
  rw [List.getElem_set]
  simp only [partK, List.getElem_map, List.getElem_range]
  by_cases h : n = i
  ·
   subst h
   simp
  ·
   rw [if_neg h]
   by_cases h3 : i < n
   · rw [if_pos h3, if_pos (by omega)]
   · rw [if_neg h3, if_neg (by omega)]
theorem partK_same (below : List Fl) (w c L n : Nat) (hn : n < L + 1) : (partK below w c L n).set n (foldK below w n 0) = partK below w c L n := by
 apply List.ext_getElem
 · simp
 ·
  intro i h1 h2
  rw [List.getElem_set]
  by_cases h : n = i
  ·
   subst h
   simp [partK, foldK]
  · rw [if_neg h]
def wOf (a2 : Int) (s : S66) : Nat × Nat := ((wrap64 s.f0 + a2).toNat, (wrap64 s.f1).toNat)
def rdR (l : List (List Fl)) (i : Int) : List Fl := rd_L7 l i
theorem rdR_app (pre : List (List Fl)) (x : List Fl) (t : List (List Fl)) : rdR (pre ++ x :: t) (pre.length : Int) = x := by
 unfold rdR rd_L7
 rw [Int.toNat_natCast]
 simp
theorem rdR_app1 (pre : List (List Fl)) (x y : List Fl) (t : List (List Fl)) : rdR (pre ++ x :: y :: t) ((pre.length + 1 : Nat) : Int) = y := by
 unfold rdR rd_L7
 rw [Int.toNat_natCast]
 simp [List.getD_eq_getElem?_getD, List.getElem?_append_right]
theorem set_app (pre : List (List Fl)) (x y : List Fl) (t : List (List Fl)) : (pre ++ x :: t).set pre.length y = pre ++ y :: t := by
 rw [List.set_append]
 simp
theorem getElem_rdF {l : List Fl} {i : Nat} (h : i < l.length) (x : Fl) : rdF (l.set i x) (i : Int) = x := by
 rw [rdF_get (by simpa using h)]
 simp
theorem partK_at (below : List Fl) (w c L n : Nat) (hn : n < L + 1) (x : Fl) : rdF ((partK below w c L n).set n x) (n : Int) = x := getElem_rdF (by rw [partK_len]; exact hn) x
def goodS (a2 : Int) (s : S66) (w c : Nat) : Prop := wrap64 (wrap64 s.f0 + a2) = (w : Int) ∧ wrap64 s.f1 = (c : Int) ∧ 1 ≤ w ∧ w ≤ 1000 ∧ c ≤ 1000
theorem fill2 (l : List S66) (L a2 : Int) (below : List Fl) (t : List (List Fl)) (pre : List (List Fl)) (w c N at_ : Nat) (r : List (List Fl)) (hN : N ≤ 100000) (hl : l.length ≤ 1000) (hi : pre.length < l.length) (hg : goodS a2 (rd_T66 l (pre.length : Int)) w c) (hb : below.length = N + 1) (hat : at_ < N + 1)
  (hend : Ev (fun k => impl_fillings.l1 k l L a2 (pre ++ partK below w c N (at_ + 1) :: below :: t) (pre.length : Int) (w : Int) ((N + 1 : Nat) : Int) ((at_ + 1 : Nat) : Int)) r) :
  ∀ d k, k + d = c + 1 → Ev (fun n => impl_fillings.l2 n l L a2 (pre ++ (partK below w c N at_).set at_ (foldK below w at_ k) :: below :: t) (pre.length : Int) (w : Int) (at_ : Int) (k : Int) ((N + 1 : Nat) : Int) (at_ : Int)) r := by
 obtain ⟨g1, g2, g3, g4, g5⟩ := hg
 have stop : ∀ k, k ≤ c + 1 → foldK below w at_ k = foldK below w at_ (c + 1) → Ev (fun n => impl_fillings.l1 n l L a2 (pre ++ (partK below w c N at_).set at_ (foldK below w at_ k) :: below :: t) (pre.length : Int) (w : Int) ((N + 1 : Nat) : Int) (wrap64 ((at_ : Int) + 1))) r := by
  intro k hk e
  rw [e, partK_succ below w c N at_ hat, w64_succ (by omega)]
  exact hend
 intro d
 induction d with
 | zero =>
  intro k hk
  obtain rfl : k = c + 1 := by omega
  refine Ev.step (fun n => impl_fillings.l2.eq_2 _ _ _ _ _ _ _ _ _ _ _) ?_
  rw [g2]
  exact Ev.ite_pos (by omega) (Ev.ite_pos (by omega) (Ev.ite_neg (by omega) (stop _ (by omega) rfl)))
 | succ d ih =>
  intro k hk
  refine Ev.step (fun n => impl_fillings.l2.eq_2 _ _ _ _ _ _ _ _ _ _ _) ?_
  obtain ⟨m, hm⟩ : ∃ m : Nat, m = k * w := ⟨_, rfl⟩
  have hmb : m ≤ 1000000 := by
   have h1 : k * w ≤ 1000 * 1000 := Nat.mul_le_mul (by omega) g4
   rw [hm]
   exact Nat.le_trans h1 (by decide)
  have e1 : wrap64 ((k : Int) * (w : Int)) = (m : Int) := by
   have h2 : (k : Int) * (w : Int) = (m : Int) := by rw [hm]; simp
   rw [h2]
   clear h2 hm
   exact w64 (by omega) (by omega)
  have hst : at_ < m → foldK below w at_ k = foldK below w at_ (c + 1) := by
   intro h3
   have h4 := foldK_stop below (w := w) (at_ := at_) (k := k) (by rw [← hm]; exact h3) (c + 1 - k)
   clear hm e1
   rw [show k + (c + 1 - k) = c + 1 by omega] at h4
   exact h4.symm
  have hfo : m ≤ at_ → foldK below w at_ (k + 1) = stepK below (at_ - m) k (foldK below w at_ k) := by
   intro h3
   rw [foldK, ← hm, if_pos h3]
  rw [g2, e1]
  clear e1 hm
  refine Ev.ite_pos (by omega) (Ev.ite_pos (by omega) (Ev.ite_pos (by omega) ?_))
  by_cases hkat : m ≤ at_
  ·
   have ih' := ih (k + 1) (by omega)
   have ef := hfo hkat
   rw [w64_succ (i := pre.length) (by omega), w64 (x := (at_ : Int) - (m : Int)) (by omega) (by omega), show (at_ : Int) - (m : Int) = ((at_ - m : Nat) : Int) by omega]
   have eb : rd_L7 (pre ++ (partK below w c N at_).set at_ (foldK below w at_ k) :: below :: t) ((pre.length + 1 : Nat) : Int) = below := rdR_app1 _ _ _ _
   have eo : rd_L7 (pre ++ (partK below w c N at_).set at_ (foldK below w at_ k) :: below :: t) (pre.length : Int) = (partK below w c N at_).set at_ (foldK below w at_ k) := rdR_app _ _ _
   have eq_ : rd_T71 ((partK below w c N at_).set at_ (foldK below w at_ k)) (at_ : Int) = foldK below w at_ k := partK_at below w c N at_ hat _
   rw [eb, eo, eq_, w64_succ (i := k) (by omega)]
   refine Ev.ite_pos (by omega) (Ev.ite_pos (by omega) (Ev.ite_pos (by simp only [List.length_append, List.length_cons]; omega) (Ev.ite_pos (by omega) (Ev.ite_pos (by omega) ?_))))
   by_cases h0 : (rdF below ((at_ - m : Nat) : Int)).f0 = 0
   ·
    refine Ev.ite_pos h0 ?_
    rw [ef, show stepK below (at_ - m) k (foldK below w at_ k) = foldK below w at_ k from if_pos h0] at ih'
    exact ih'
   ·
    have hpl : (partK below w c N at_).length = N + 1 := partK_len _ _ _ _ _
    refine Ev.ite_neg h0 (Ev.ite_pos (by simp only [List.length_append, List.length_cons]; omega) (Ev.ite_pos (by omega) (Ev.ite_pos (by rw [List.length_set, hpl]; omega) ?_)))
    have two : ∀ v1 v2 : Fl, ((pre ++ (partK below w c N at_).set at_ v1 :: below :: t).set pre.length (((partK below w c N at_).set at_ v1).set at_ v2)) = pre ++ (partK below w c N at_).set at_ v2 :: below :: t := by
     intro v1 v2
     rw [set_app, List.set_set]
    simp only [Int.toNat_natCast]
    have wr : ∀ f1 : Int, Ev (fun n => impl_fillings.l2 n l L a2 (pre ++ (partK below w c N at_).set at_ ⟨wrap64 ((foldK below w at_ k).f0 + (rdF below ((at_ - m : Nat) : Int)).f0), f1⟩ :: below :: t) (pre.length : Int) (w : Int) (at_ : Int) ((k + 1 : Nat) : Int) ((N + 1 : Nat) : Int) (at_ : Int)) r →
      Ev (fun n => (some ((pre ++ (partK below w c N at_).set at_ (foldK below w at_ k) :: below :: t).set pre.length (((partK below w c N at_).set at_ (foldK below w at_ k)).set at_ (⟨(foldK below w at_ k).f0, f1⟩ : Fl)))).bind fun y => if (at_ : Int) < ((rd_L7 y (pre.length : Int)).length : Int) then impl_fillings.l2 n l L a2 (y.set pre.length ((rd_L7 y (pre.length : Int)).set at_ (⟨wrap64 ((rd_T71 (rd_L7 y (pre.length : Int)) (at_ : Int)).f0 + (rd_T71 below ((at_ - m : Nat) : Int)).f0), (rd_T71 (rd_L7 y (pre.length : Int)) (at_ : Int)).f1⟩ : Fl))) (pre.length : Int) (w : Int) (at_ : Int) ((k + 1 : Nat) : Int) ((N + 1 : Nat) : Int) (at_ : Int) else none) r := by
     intro f1 h
     refine Ev.call (a := pre ++ (partK below w c N at_).set at_ (⟨(foldK below w at_ k).f0, f1⟩ : Fl) :: below :: t) (by rw [two]) ?_
     have eo2 : rd_L7 (pre ++ (partK below w c N at_).set at_ (⟨(foldK below w at_ k).f0, f1⟩ : Fl) :: below :: t) (pre.length : Int) = (partK below w c N at_).set at_ (⟨(foldK below w at_ k).f0, f1⟩ : Fl) := rdR_app _ _ _
     have eq2 : rd_T71 ((partK below w c N at_).set at_ (⟨(foldK below w at_ k).f0, f1⟩ : Fl)) (at_ : Int) = ⟨(foldK below w at_ k).f0, f1⟩ := partK_at below w c N at_ hat _
     rw [eo2, eq2, two]
     exact Ev.ite_pos (by rw [List.length_set, hpl]; omega) h
    by_cases h1 : (foldK below w at_ k).f0 = 0
    ·
     rw [ef, show stepK below (at_ - m) k (foldK below w at_ k) = ⟨wrap64 ((foldK below w at_ k).f0 + (rdF below ((at_ - m : Nat) : Int)).f0), wrap64 ((rdF below ((at_ - m : Nat) : Int)).f1 + k)⟩ by unfold stepK; rw [if_neg h0, if_pos (Or.inl h1)]] at ih'
     exact Ev.ite_pos h1 (wr _ ih')
    ·
     refine Ev.ite_neg h1 ?_
     by_cases h2 : wrap64 ((rdF below ((at_ - m : Nat) : Int)).f1 + k) < (foldK below w at_ k).f1
     ·
      rw [ef, show stepK below (at_ - m) k (foldK below w at_ k) = ⟨wrap64 ((foldK below w at_ k).f0 + (rdF below ((at_ - m : Nat) : Int)).f0), wrap64 ((rdF below ((at_ - m : Nat) : Int)).f1 + k)⟩ by unfold stepK; rw [if_neg h0, if_pos (Or.inr h2)]] at ih'
      exact Ev.ite_pos h2 (wr _ ih')
     ·
      rw [ef, show stepK below (at_ - m) k (foldK below w at_ k) = ⟨wrap64 ((foldK below w at_ k).f0 + (rdF below ((at_ - m : Nat) : Int)).f0), (foldK below w at_ k).f1⟩ by unfold stepK; rw [if_neg h0, if_neg (by rintro (h | h); exact h1 h; exact h2 h)]] at ih'
      refine Ev.ite_neg h2 ?_
      rw [two]
      exact ih'
  · exact Ev.ite_neg (by omega) (stop k (by omega) (hst (by omega)))
theorem fill1 (l : List S66) (L a2 : Int) (below : List Fl) (t : List (List Fl)) (pre : List (List Fl)) (w c N : Nat) (r : List (List Fl)) (hN : N ≤ 100000) (hl : l.length ≤ 1000) (hi : pre.length < l.length) (hg : goodS a2 (rd_T66 l (pre.length : Int)) w c) (hb : below.length = N + 1)
  (hend : Ev (fun k => impl_fillings.l0 k l L a2 (pre ++ rowK below w c N :: below :: t) (wrap64 ((pre.length : Int) - 1))) r) :
  ∀ d at_, at_ + d = N + 1 → Ev (fun n => impl_fillings.l1 n l L a2 (pre ++ partK below w c N at_ :: below :: t) (pre.length : Int) (w : Int) ((N + 1 : Nat) : Int) (at_ : Int)) r := by
 intro d
 induction d with
 | zero =>
  intro at_ h
  obtain rfl : at_ = N + 1 := by omega
  refine Ev.step (fun n => impl_fillings.l1.eq_2 _ _ _ _ _ _ _ _ _) (Ev.ite_neg (by omega) ?_)
  rw [partK_full]
  exact hend
 | succ d ih =>
  intro at_ h
  refine Ev.step (fun n => impl_fillings.l1.eq_2 _ _ _ _ _ _ _ _ _) (Ev.ite_pos (by omega) ?_)
  have h2 := fill2 l L a2 below t pre w c N at_ r hN hl hi hg hb (by omega) (ih (at_ + 1) (by omega)) (c + 1) 0 (by omega)
  rw [partK_same below w c N at_ (by omega)] at h2
  exact h2
def goodL (a2 : Int) (l : List S66) (ws : List (Nat × Nat)) : Prop := ws.length = l.length ∧ ∀ i (h : i < ws.length), goodS a2 (rd_T66 l (i : Int)) ws[i].1 ws[i].2
theorem fill0 (l : List S66) (a2 : Int) (ws : List (Nat × Nat)) (N : Nat) (hN : N ≤ 100000) (hl : l.length ≤ 1000) (hg : goodL a2 l ws) :
  ∀ m (pre : List (List Fl)), pre.length = m → m ≤ ws.length → Ev (fun k => impl_fillings.l0 k l (N : Int) a2 (pre ++ rowsK N (ws.drop m)) ((m : Int) - 1)) (rowsK N ws) := by
 intro m
 induction m with
 | zero =>
  intro pre hp _
  obtain rfl : pre = [] := List.eq_nil_of_length_eq_zero hp
  exact Ev.step (fun n => impl_fillings.l0.eq_2 _ _ _ _ _ _) (Ev.ite_neg (by omega) (Ev.now _))
 | succ m ih =>
  intro pre hp hm
  obtain ⟨hw, hgs⟩ := hg
  have hm2 : m < ws.length := by omega
  obtain ⟨pre', x, rfl⟩ : ∃ (p : List (List Fl)) (x : List Fl), pre = p ++ [x] := ⟨pre.dropLast, pre.getLast (by intro h; rw [h] at hp; simp at hp), (List.dropLast_concat_getLast _).symm⟩
  have hp' : pre'.length = m := by simpa using hp
  subst hp'
  have g := hgs pre'.length hm2
  have ed : rowsK N (ws.drop pre'.length) = rowK ((rowsK N (ws.drop (pre'.length + 1))).headD []) ws[pre'.length].1 ws[pre'.length].2 N :: rowsK N (ws.drop (pre'.length + 1)) := by
   rw [List.drop_eq_getElem_cons hm2]
   rfl
  obtain ⟨below, t, et⟩ : ∃ (b : List Fl) (t : List (List Fl)), rowsK N (ws.drop (pre'.length + 1)) = b :: t := by
   cases h : rowsK N (ws.drop (pre'.length + 1)) with
   | nil =>
    have := rowsK_len N (ws.drop (pre'.length + 1))
    rw [h] at this
    simp at this
   | cons b t => exact ⟨b, t, rfl⟩
  have hb : below.length = N + 1 := by
   have := rowsK_head N (ws.drop (pre'.length + 1))
   rw [et] at this
   exact this
  have ih' := ih pre' rfl (by omega)
  rw [ed, et] at ih'
  simp only [List.headD_cons] at ih'
  rw [et, List.append_assoc, List.singleton_append, show ((pre'.length + 1 : Nat) : Int) - 1 = (pre'.length : Int) by omega]
  refine Ev.step (fun n => impl_fillings.l0.eq_2 _ _ _ _ _ _) ?_
  rw [w64_succ (i := N) (by omega), Int.toNat_natCast, Int.toNat_natCast]
  refine Ev.ite_pos (by omega) (Ev.ite_pos (by omega) (Ev.ite_pos (by omega) (Ev.ite_pos (by omega) (Ev.ite_pos (by simp only [List.length_append, List.length_cons]; omega) ?_))))
  refine Ev.call (a := pre' ++ List.replicate (N + 1) zFl :: below :: t) (by rw [set_app]; rfl) (Ev.ite_neg (by omega) (Ev.ite_pos (by omega) ?_))
  have eo : rd_L7 (pre' ++ List.replicate (N + 1) zFl :: below :: t) (pre'.length : Int) = List.replicate (N + 1) zFl := rdR_app _ _ _
  rw [eo, List.length_replicate, g.1, ← partK_zero below ws[pre'.length].1 ws[pre'.length].2 N]
  refine fill1 l N a2 below t pre' ws[pre'.length].1 ws[pre'.length].2 N _ hN hl (by omega) g hb ?_ (N + 1) 0 (by omega)
  rw [w64 (x := (pre'.length : Int) - 1) (by omega) (by omega)]
  exact ih'
theorem fillings_val (l : List S66) (a2 : Int) (ws : List (Nat × Nat)) (N : Nat) (hN : N ≤ 100000) (hl : l.length ≤ 1000) (hg : goodL a2 l ws) : Ev (fun k => impl_fillings.f k l (N : Int) a2) (rowsK N ws) := by
 have hw := hg.1
 unfold impl_fillings.f
 rw [w64_succ (i := l.length) (by omega), Int.toNat_natCast]
 refine Ev.ite_pos (by omega) (Ev.ite_pos (by omega) ?_)
 refine Ev.step (fun n => impl_fillings.l0.eq_2 _ _ _ _ _ _) ?_
 rw [w64_succ (i := N) (by omega), Int.toNat_natCast, Int.toNat_natCast]
 have er : (List.replicate (l.length + 1) ([] : List Fl)) = List.replicate l.length [] ++ [[]] := by rw [← List.replicate_succ']
 have es : ∀ x y : List Fl, ((List.replicate l.length ([] : List Fl)) ++ [x]).set l.length y = List.replicate l.length [] ++ [y] := by
  intro x y
  have := set_app (List.replicate l.length ([] : List Fl)) x y []
  rwa [List.length_replicate] at this
 have eg : ∀ x : List Fl, rd_L7 ((List.replicate l.length ([] : List Fl)) ++ [x]) (l.length : Int) = x := by
  intro x
  have := rdR_app (List.replicate l.length ([] : List Fl)) x []
  rwa [List.length_replicate] at this
 refine Ev.ite_pos (by omega) (Ev.ite_pos (by omega) (Ev.ite_pos (by omega) (Ev.ite_pos (by omega) (Ev.ite_pos (by rw [List.length_replicate]; omega) ?_))))
 refine Ev.call (a := List.replicate l.length [] ++ [List.replicate (N + 1) zFl]) (by rw [er, es]; rfl) (Ev.ite_pos rfl ?_)
 rw [eg, es]
 refine Ev.ite_pos (by rw [List.length_replicate]; omega) ?_
 have h := fill0 l a2 ws N hN hl hg ws.length (List.replicate ws.length []) (by simp) (Nat.le_refl _)
 rw [List.drop_length, hw] at h
 rw [w64 (x := (l.length : Int) - 1) (by omega) (by omega)]
 exact h
end Go.Proofs.Ytabooaeobpgadaa.Q
