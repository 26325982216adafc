/- The law on FillRow answers true for every list of setts, length and joint; no condition. -/
import Derived.Test.YtabooaeobpgadaaXQLawFillRow
import Derived.Test.YtabooaeobpgadaaXQOpn
import Derived.Test.YtabooaeobpgadaaXQBAsk
import Derived.Test.YtabooaeobpgadaaXQBInts
namespace Go.Proofs.Ytabooaeobpgadaa.Q
open Go.RowKit Go.Proofs.YtabooaeobpgadaaW.PrintWords Go.Proofs.YtabooaeobpgadaaW.PrintLast Go.Proofs.YtabooaeobpgadaaW.PrintMore
set_option linter.unusedVariables false
def Pure.FnExactFillRow : Prop := ∀ (x0 : List (S68)) (x1 : Int) (x2 : Int), (x0.length ≤ maxLen ∧ ∀ z_ ∈ x0, wf68 z_) → (Lit.int .i64 x1).wf = true → (Lit.int .i64 x2).wf = true → ∃ k, laws_FnExactFillRow.f k x0 x1 x2 = some true
def fillRowR (l : List S66) (a1 a2 : Int) : List Int × Int × Int := if settsB l = true then (if (inB a1 1 400 && inB a2 0 5) = true then (if (fillR (l.map (wOf a2)) (a1 + a2).toNat).2.2 = true then ((fillR (l.map (wOf a2)) (a1 + a2).toNat).1, (fillR (l.map (wOf a2)) (a1 + a2).toNat).2.1, 0) else ([], 0, 6)) else ([], 0, 2)) else ([], 0, 1)
theorem fillR_len (ws : List (Nat × Nat)) (N : Nat) : (fillR ws N).1.length ≤ ws.length := by
  unfold fillR
  split
  · exact Nat.le_of_eq (pickT_len ws N)
  · simp
theorem fillRowR_len {l : List S66} (a1 a2 : Int) : (fillRowR l a1 a2).1.length ≤ l.length := by
  have h := fillR_len (l.map (wOf a2)) (a1 + a2).toNat
  rw [List.length_map] at h
  unfold fillRowR
  split
  · split
    · split
      · exact h
      · simp
    · simp
  · simp
theorem specFillRow (l : List S66) (a1 a2 : Int) (h : l.length ≤ 1048576) : Ev (fun k => spec_FillRow.f k l a1 a2) (fillRowR l a1 a2) := by
  unfold spec_FillRow.f
  refine Ev.call (long_val a1) ?_
  have no : ∀ x : Int, x ≠ 0 → Ev (fun k => spec_FillRow.j0 k l a1 a2 x) ([], 0, x) := fun x hx => Ev.step (fun k => spec_FillRow.j0.eq_2 _ _ _ _ _) (Ev.ite_neg hx (Ev.now _))
  by_cases hv : settsB l = true
  · by_cases h1 : inB a1 1 400 = true
    · refine Ev.ite_pos h1 (Ev.call (joint_val a2) (Ev.bind (asked_val l _ h) ?_))
      rw [if_pos hv]
      by_cases h2 : inB a2 0 5 = true
      · obtain ⟨p0, p1⟩ := inB_iff.1 h1
        obtain ⟨q0, q1⟩ := inB_iff.1 h2
        obtain ⟨hn, hg, -⟩ := setts_good hv a2 q0 q1
        rw [if_pos h2, show fillRowR l a1 a2 = (if (fillR (l.map (wOf a2)) (a1 + a2).toNat).2.2 = true then ((fillR (l.map (wOf a2)) (a1 + a2).toNat).1, (fillR (l.map (wOf a2)) (a1 + a2).toNat).2.1, 0) else ([], 0, 6)) by unfold fillRowR; rw [if_pos hv, h1, h2]; rfl]
        refine Ev.step (fun k => spec_FillRow.j0.eq_2 _ _ _ _ _) (Ev.ite_pos rfl ?_)
        refine Ev.bind (specFill l a1 a2 _ (a1 + a2).toNat (by omega) (setts_fine hv a2) hg (by rw [w64 (by omega) (by omega)]; omega)) ?_
        exact Ev.if_ (fun hc => Ev.ite_pos hc (Ev.now _)) (fun hc => Ev.ite_neg hc (Ev.now _))
      · rw [if_neg h2, show fillRowR l a1 a2 = ([], 0, 2) by unfold fillRowR; rw [if_pos hv, if_neg (by simp [h2])]]
        exact no 2 (by decide)
    · refine Ev.ite_neg h1 (Ev.bind (asked_val l _ h) ?_)
      rw [if_pos hv, show fillRowR l a1 a2 = ([], 0, 2) by unfold fillRowR; rw [if_pos hv, if_neg (by simp [h1])]]
      exact no 2 (by decide)
  · rw [show fillRowR l a1 a2 = ([], 0, 1) from if_neg hv]
    by_cases h1 : inB a1 1 400 = true
    · refine Ev.ite_pos h1 (Ev.call (joint_val a2) (Ev.bind (asked_val l _ h) ?_))
      rw [if_neg hv]
      exact no 1 (by decide)
    · refine Ev.ite_neg h1 (Ev.bind (asked_val l _ h) ?_)
      rw [if_neg hv]
      exact no 1 (by decide)
theorem implFillRow (l : List S66) (a1 a2 : Int) (h : l.length ≤ 1048576) : Ev (fun k => impl_FillRow.f k l a1 a2) (fillRowR l a1 a2) := by
  unfold impl_FillRow.f
  refine Ev.bind (rowCode_val l a1 a2 h) ?_
  by_cases hv : settsB l = true
  · by_cases h2 : (inB a1 1 400 && inB a2 0 5) = true
    · rw [if_pos hv, if_pos h2, show fillRowR l a1 a2 = (if (fillR (l.map (wOf a2)) (a1 + a2).toNat).2.2 = true then ((fillR (l.map (wOf a2)) (a1 + a2).toNat).1, (fillR (l.map (wOf a2)) (a1 + a2).toNat).2.1, 0) else ([], 0, 6)) by unfold fillRowR; rw [if_pos hv, if_pos h2]]
      rw [Bool.and_eq_true] at h2
      obtain ⟨p0, p1⟩ := inB_iff.1 h2.1
      obtain ⟨q0, q1⟩ := inB_iff.1 h2.2
      obtain ⟨hn, hg, -⟩ := setts_good hv a2 q0 q1
      refine Ev.ite_pos rfl (Ev.bind (implFill l a1 a2 _ (a1 + a2).toNat (by omega) (setts_fine hv a2) hg (by rw [w64 (by omega) (by omega)]; omega)) ?_)
      exact Ev.if_ (fun hc => Ev.ite_pos hc (Ev.now _)) (fun hc => Ev.ite_neg hc (Ev.now _))
    · rw [if_pos hv, if_neg h2, show fillRowR l a1 a2 = ([], 0, 2) by unfold fillRowR; rw [if_pos hv, if_neg h2]]
      exact Ev.ite_neg (by decide) (Ev.now _)
  · rw [if_neg hv, show fillRowR l a1 a2 = ([], 0, 1) from if_neg hv]
    exact Ev.ite_neg (by decide) (Ev.now _)
theorem markSetts (l : List S66) (h : l.length ≤ 1048576) : ∃ l', Ev (fun k => laws_markSettS.f k l 1) (1 + 2 * (l.length : Int), l') := by
  unfold laws_markSettS.f
  have key : ∀ d i (s : List S66), i + d = l.length → s.length = l.length → ∃ l', Ev (fun k => laws_markSettS.l0 k s (1 + 2 * (i : Int)) (i : Int)) (1 + 2 * (l.length : Int), l') := by
    intro d
    induction d with
    | zero =>
      intro i s hi hs
      obtain rfl : i = l.length := by omega
      exact ⟨s, Ev.step (fun k => laws_markSettS.l0.eq_2 _ _ _ _) (Ev.ite_neg (by omega) (Ev.now _))⟩
    | succ d ih =>
      intro i s hi hs
      obtain ⟨l', hl'⟩ := ih (i + 1) ((s.set i (⟨IntKind.i8.wrap (1 + 2 * (i : Int)), (rd_T66 s (i : Int)).f1⟩ : S66)).set i (⟨(rd_T66 (s.set i (⟨IntKind.i8.wrap (1 + 2 * (i : Int)), (rd_T66 s (i : Int)).f1⟩ : S66)) (i : Int)).f0, IntKind.i16.wrap (wrap64 ((1 + 2 * (i : Int)) + 1))⟩ : S66)) (by omega) (by simpa using hs)
      refine ⟨l', Ev.step (fun k => laws_markSettS.l0.eq_2 _ _ _ _) (Ev.ite_pos (by omega) (Ev.ite_pos (by omega) (Ev.call rfl ?_)))⟩
      rw [w64_succ (i := i) (by omega), show wrap64 (wrap64 (1 + 2 * (i : Int) + 1) + 1) = 1 + 2 * ((i + 1 : Nat) : Int) by rw [w64 (x := 1 + 2 * (i : Int) + 1) (by omega) (by omega), w64 (by omega) (by omega)]; omega]
      exact hl'
  exact key l.length 0 l (by omega) rfl
theorem pure_FnExactFillRow : Pure.FnExactFillRow := by
  rintro l a1 a2 ⟨hl, -⟩ - -
  unfold maxLen at hl
  refine Ev.rounds (g := fun k => laws_FnExactFillRow.f k l a1 a2) ?_
  unfold laws_FnExactFillRow.f
  refine Ev.call (szSetts l _ hl (by omega) (by omega)) ?_
  by_cases h : (1048576 : Int) < l.length
  · rw [if_pos h]
    exact Ev.ite_pos (by decide) (Ev.now _)
  · rw [if_neg h]
    have hlen := fillRowR_len (l := l.map settOf) a1 a2
    rw [List.length_map] at hlen
    have hS := specFillRow (l.map settOf) a1 a2 (by simp; omega)
    have hI := implFillRow (l.map settOf) a1 a2 (by simp; omega)
    generalize fillRowR (l.map settOf) a1 a2 = R at *
    obtain ⟨l', hm⟩ := markSetts (l.map settOf) (by simp; omega)
    rw [List.length_map] at hm
    refine Ev.ite_neg (by omega) (Ev.bind (toSetts l (by omega)) (Ev.bind hS (Ev.bind (toSetts l (by omega)) (Ev.bind hI (Ev.bind (eqInts _ (by omega)) (Ev.ite_pos rfl (Ev.ite_pos rfl ?_)))))))
    rw [show (R.2.2 != R.2.2) = false by simp]
    refine Ev.step (fun k => laws_FnExactFillRow.j0.eq_2 _ _ _ _ _ _ _ _ _ _ _ _) (Ev.ite_neg (by decide) (Ev.bind (toSetts l (by omega)) (Ev.bind (eqSetts _ (by simp; omega)) (Ev.ite_pos rfl (Ev.bind hm (Ev.ite_neg (by show ¬ (1 + 2 * (l.length : Int) < 0); omega) (Ev.bind (eqInts _ (by omega)) (Ev.ite_pos rfl (Ev.ite_pos rfl ?_)))))))))
    rw [show (R.2.2 != R.2.2) = false by simp]
    refine Ev.step (fun k => laws_FnExactFillRow.j1.eq_2 _ _ _ _ _ _ _ _ _) (Ev.ite_neg (by decide) (Ev.bind (markInts _ (by omega)) (Ev.bind (heldInts _ (by omega)) (Ev.ite_neg (by omega) (Ev.ite_pos rfl (Ev.bind (toSetts l (by omega)) (Ev.bind hI (Ev.bind (eqInts _ (by omega)) (Ev.ite_pos rfl (Ev.ite_pos rfl ?_))))))))))
    rw [show (R.2.2 != R.2.2) = false by simp]
    exact Ev.step (fun k => laws_FnExactFillRow.j2.eq_2 _ _ _ _) (Ev.ite_neg (by decide) (Ev.bind (heldInts _ (by omega)) (Ev.ite_neg (by omega) (Ev.ite_pos rfl (Ev.now _)))))
end Go.Proofs.Ytabooaeobpgadaa.Q
