/- The law on BestTurn answers true for every two rows and joint; no condition. -/
import Derived.Test.YtpbobnpmiafbbaaQLawBestTurn
import Derived.Test.YtpbobnpmiafbbaaQOpn
import Derived.Test.YtpbobnpmiafbbaaQBCommon
import Derived.Test.YtpbobnpmiafbbaaQBConcat
import Derived.Test.YtpbobnpmiafbbaaQBInts
namespace Go.Proofs.Ytpbobnpmiafbbaa.Q
open Go.RowKit Go.Proofs.YtpbobnpmiafbbaaW.PrintWords Go.Proofs.YtpbobnpmiafbbaaW.PrintLast Go.Proofs.YtpbobnpmiafbbaaW.PrintMore
set_option linter.unusedVariables false

def Pure.FnExactBestTurn : Prop := ∀ (x0 : List Int) (x1 : List Int) (x2 : Int), (x0.length ≤ maxLen ∧ ∀ z_ ∈ x0, (Lit.int .i64 z_).wf = true) → (x1.length ≤ maxLen ∧ ∀ z_ ∈ x1, (Lit.int .i64 z_).wf = true) → (Lit.int .i64 x2).wf = true → ∃ k, laws_FnExactBestTurn.f k x0 x1 x2 = some true

def turnL (b : List Int) (i : Nat) : List Int := b.drop i ++ b.take i
def cntT (a b : List Int) (j : Int) (i : Nat) : Int := ((commonV a (turnL b i) j).length : Int)
theorem turnL_row {b : List Int} (h : rowB b = true) (i : Nat) : rowB (turnL b i) = true := by
  unfold rowB at h ⊢
  rw [Bool.and_eq_true] at h ⊢
  unfold turnL
  refine ⟨?_, ?_⟩
  · rw [List.all_append, Bool.and_comm, ← List.all_append, List.take_append_drop]
    exact h.1
  · rw [List.length_append, Nat.add_comm, ← List.length_append, List.take_append_drop]
    exact h.2
def btF (a b : List Int) (j : Int) : Nat → Nat → Int × Int → Int × Int
  | 0, _, s => s
  | d + 1, i, s => btF a b j d (i + 1) (if cntT a b j i < s.2 then ((i : Int), cntT a b j i) else s)
theorem specBT (a b : List Int) (j : Int) (ha : rowB a = true) (hb : rowB b = true) (hj : inB j 0 5 = true) : ∀ (d i : Nat) (s : Int × Int), i + d = b.length → Ev (fun k => spec_BestTurn.l0 k a b j s.1 s.2 (i : Int)) ((btF a b j d i s).1, (btF a b j d i s).2, 0) := by
  have lb := row_len hb
  intro d
  induction d with
  | zero =>
    intro i s hi
    exact Ev.step (fun k => spec_BestTurn.l0.eq_2 _ _ _ _ _ _ _) (Ev.ite_neg (by omega) (Ev.now _))
  | succ d ih =>
    intro i s hi
    have et : spec_l03Turn.f b (i : Int) = some (turnL b i) := by
      unfold spec_l03Turn.f turnL
      rw [Option.bind_some, if_pos (by omega), if_pos (by omega), if_pos (by simp; omega), Option.bind_some, if_pos (by simp; omega), Int.toNat_natCast]
      rfl
    refine Ev.step (fun k => spec_BestTurn.l0.eq_2 _ _ _ _ _ _ _) (Ev.ite_pos (by omega) (Ev.call et (Ev.bind (specCommon a (turnL b i) j ha (turnL_row hb i) hj) ?_)))
    rw [w64_succ (by omega)]
    unfold btF
    by_cases c : cntT a b j i < s.2
    · rw [if_pos c]
      exact Ev.ite_pos c (ih (i + 1) ((i : Int), cntT a b j i) (by omega))
    · rw [if_neg c]
      exact Ev.ite_neg c (ih (i + 1) s (by omega))
theorem size_val (l : List Int) : impl_size_int64.f l = some (l.length : Int) := rfl
theorem implBT (a b : List Int) (j : Int) (ha : rowB a = true) (hb : rowB b = true) (hj : inB j 0 5 = true) : ∀ (d i : Nat) (s : Int × Int), i + d = b.length → 0 ≤ s.2 → Ev (fun k => impl_BestTurn.l0 k a b j s.1 s.2 (b.length : Int) (i : Int)) ((btF a b j d i s).1, (btF a b j d i s).2, 0) := by
  have lb := row_len hb
  intro d
  induction d with
  | zero =>
    intro i s hi h0
    exact Ev.step (fun k => impl_BestTurn.l0.eq_2 _ _ _ _ _ _ _ _) (Ev.ite_neg (by omega) (Ev.now _))
  | succ d ih =>
    intro i s hi h0
    refine Ev.step (fun k => impl_BestTurn.l0.eq_2 _ _ _ _ _ _ _ _) (Ev.ite_pos (by omega) (Ev.ite_pos (by omega) (Ev.ite_pos (by omega) ?_)))
    rw [Int.toNat_natCast, w64_succ (by omega)]
    refine Ev.bind (concat2 (b.drop i) (b.take i) (by simp; omega)) (Ev.bind (implCommon a (turnL b i) j ha (turnL_row hb i) hj) (Ev.call (size_val _) (Ev.ite_neg (by omega) ?_)))
    unfold btF
    by_cases c : cntT a b j i < s.2
    · rw [if_pos c]
      exact Ev.ite_pos c (ih (i + 1) ((i : Int), cntT a b j i) (by omega) (by show 0 ≤ cntT a b j i; unfold cntT; omega))
    · rw [if_neg c]
      exact Ev.ite_neg c (ih (i + 1) s (by omega) h0)
def btR (a b : List Int) (j : Int) : Int × Int × Int := if (rowB a && rowB b && inB j 0 5) = true then ((btF a b j (b.length - 1) 1 (0, cntT a b j 0)).1, (btF a b j (b.length - 1) 1 (0, cntT a b j 0)).2, 0) else (0, 0, 2)
theorem turn0 (b : List Int) : turnL b 0 = b := by unfold turnL; simp
theorem specBestT (a b : List Int) (j : Int) (ha : a.length ≤ 1048576) (hb : b.length ≤ 1048576) : Ev (fun k => spec_BestTurn.f k a b j) (btR a b j) := by
  unfold spec_BestTurn.f btR
  have no : ¬ (rowB a && rowB b && inB j 0 5) = true → ∀ c, c = true → Ev (fun k => spec_BestTurn.j0 k a b j c) (if (rowB a && rowB b && inB j 0 5) = true then ((btF a b j (b.length - 1) 1 (0, cntT a b j 0)).1, (btF a b j (b.length - 1) 1 (0, cntT a b j 0)).2, 0) else (0, 0, 2)) := fun hn c hc => by
    refine Ev.step (fun k => spec_BestTurn.j0.eq_2 _ _ _ _ _) (Ev.ite_pos hc (Ev.eq_ (Ev.now _) ?_))
    rw [if_neg hn]
  refine Ev.bind (specRow a ha) ?_
  by_cases h1 : rowB a = true
  · refine Ev.ite_pos h1 (Ev.bind (specRow b hb) ?_)
    by_cases h2 : rowB b = true
    · refine Ev.ite_pos h2 (Ev.call (specJoint j) ?_)
      by_cases h3 : inB j 0 5 = true
      · have lb := row_len h2
        have hc := specCommon a b j h1 h2 h3
        refine Ev.step (fun k => spec_BestTurn.j0.eq_2 _ _ _ _ _) (Ev.ite_neg (by rw [h3]; decide) (Ev.bind hc (Ev.eq_ ?_ (if_pos (by rw [h1, h2, h3]; rfl)).symm)))
        have h := specBT a b j h1 h2 h3 (b.length - 1) 1 (0, cntT a b j 0) (by omega)
        unfold cntT at h ⊢
        rw [turn0] at h ⊢
        exact h
      · exact no (by rw [h1, h2, show inB j 0 5 = false by simpa using h3]; decide) _ (by rw [show inB j 0 5 = false by simpa using h3]; rfl)
    · exact Ev.ite_neg h2 (no (by rw [h1, show rowB b = false by simpa using h2]; simp) _ rfl)
  · exact Ev.ite_neg h1 (no (by rw [show rowB a = false by simpa using h1]; simp) _ rfl)
theorem implBestT (a b : List Int) (j : Int) (ha : a.length ≤ 1048576) (hb : b.length ≤ 1048576) : Ev (fun k => impl_BestTurn.f k a b j) (btR a b j) := by
  unfold impl_BestTurn.f btR
  refine Ev.bind (rowsCode_val [a, b] j (by simp) (fun l hl => by
    rcases List.mem_cons.1 hl with rfl | hl
    · exact ha
    · obtain rfl := List.mem_singleton.1 hl
      exact hb)) ?_
  have e : rowsV [a, b] j = if (rowB a && rowB b && inB j 0 5) = true then 0 else 2 := by
    unfold rowsV
    simp [Bool.and_assoc]
  rw [e]
  by_cases h : (rowB a && rowB b && inB j 0 5) = true
  · rw [if_pos h, if_pos h]
    rw [Bool.and_eq_true, Bool.and_eq_true] at h
    have lb := row_len h.1.2
    refine Ev.ite_pos rfl (Ev.call (size_val b) ?_)
    refine Ev.step (fun k => impl_BestTurn.l0.eq_2 _ _ _ _ _ _ _ _) (Ev.ite_pos (by omega) (Ev.ite_pos (by omega) (Ev.ite_pos (by omega) ?_)))
    have e0 : (0 : Int).toNat = 0 := rfl
    have e1 : wrap64 (0 + 1) = 1 := w64 (by omega) (by omega)
    rw [e0, e1]
    refine Ev.bind (concat2 (b.drop 0) (b.take 0) (by simp; omega)) (Ev.bind (implCommon a (turnL b 0) j h.1.1 (turnL_row h.1.2 0) h.2) (Ev.call (size_val _) (Ev.ite_pos (by omega) ?_)))
    exact implBT a b j h.1.1 h.1.2 h.2 (b.length - 1) 1 (0, cntT a b j 0) (by omega) (by show 0 ≤ cntT a b j 0; unfold cntT; omega)
  · rw [if_neg h, if_neg h]
    exact Ev.ite_neg (by decide) (Ev.now _)
theorem pure_FnExactBestTurn : Pure.FnExactBestTurn := by
  rintro a b j ⟨hla, -⟩ ⟨hlb, -⟩ -
  refine Ev.rounds (g := fun k => laws_FnExactBestTurn.f k a b j) ?_
  unfold laws_FnExactBestTurn.f
  by_cases ca : (a.length : Int) > 1048576
  · exact Ev.ite_pos ca (Ev.now _)
  refine Ev.ite_neg ca ?_
  by_cases cb : (b.length : Int) > 1048576
  · exact Ev.ite_pos cb (Ev.now _)
  refine Ev.ite_neg cb ?_
  have hS := specBestT a b j (by omega) (by omega)
  have hI := implBestT a b j (by omega) (by omega)
  generalize btR a b j = R at *
  have hne : (R.2.2 != R.2.2) = false := by simp
  have ta := toInts a (by omega)
  have tb := toInts b (by omega)
  refine Ev.bind ta (Ev.bind tb (Ev.bind hS (Ev.bind ta (Ev.bind tb (Ev.bind hI (Ev.ite_pos rfl (Ev.ite_pos rfl ?_)))))))
  rw [hne]
  exact Ev.step (fun k => laws_FnExactBestTurn.j0.eq_2 _ _ _ _ _ _) (Ev.ite_neg (by decide) (Ev.bind ta (Ev.bind (eqInts a (by omega)) (Ev.ite_pos rfl (Ev.bind tb (Ev.bind (eqInts b (by omega)) (Ev.ite_pos rfl (Ev.now _))))))))
end Go.Proofs.Ytpbobnpmiafbbaa.Q
