/- The law on WaysToFill answers true for every list of setts, length and joint; no condition. -/
import Derived.Test.YtabooaeobpgadaaQLawWaysToFill
import Derived.Test.YtabooaeobpgadaaQOpn
import Derived.Test.YtabooaeobpgadaaQBWays
import Derived.Test.YtabooaeobpgadaaQBWaysS
import Derived.Test.YtabooaeobpgadaaQ13
namespace Go.Proofs.Ytabooaeobpgadaa.Q
open Go.RowKit Go.Proofs.YtabooaeobpgadaaW.PrintWords Go.Proofs.YtabooaeobpgadaaW.PrintLast Go.Proofs.YtabooaeobpgadaaW.PrintMore
set_option linter.unusedVariables false

def Pure.FnExactWaysToFill : Prop := ∀ (x0 : List (S68)) (x1 : Int) (x2 : Int), (x0.length ≤ maxLen ∧ ∀ z_ ∈ x0, wf68 z_) → (Lit.int .i64 x1).wf = true → (Lit.int .i64 x2).wf = true → ∃ k, laws_FnExactWaysToFill.f k x0 x1 x2 = some true

theorem loopV_all {c : Nat → Bool} {z : Bool} : ∀ d i, loopV (fun i (_ : Unit) => c i) (fun _ s => s) (fun _ _ => false) (fun _ => z) d i () = true → z = true ∧ ∀ j, i ≤ j → j < i + d → c j = true
  | 0, i, h => ⟨h, fun j h1 h2 => by omega⟩
  | d + 1, i, h => by
    unfold loopV at h
    by_cases hc : c i = true
    · rw [if_pos hc] at h
      obtain ⟨h1, h2⟩ := loopV_all d (i + 1) h
      refine ⟨h1, fun j h3 h4 => ?_⟩
      by_cases h5 : j = i
      · rw [h5]; exact hc
      · exact h2 j (by omega) (by omega)
    · rw [if_neg hc] at h
      cases h
theorem setts_good {l : List S66} (h : settsB l = true) (a2 : Int) (h0 : 0 ≤ a2) (h5 : a2 ≤ 5) : l.length ≤ 6 ∧ goodL a2 l (l.map (wOf a2)) ∧ goodWs a2 l (l.map (wOf a2)) := by
  obtain ⟨h1, h2⟩ := loopV_all l.length 0 h
  have hn := (inB_iff.1 h1).2
  have key : ∀ i (hi : i < (l.map (wOf a2)).length), goodS a2 (rd_T66 l (i : Int)) (l.map (wOf a2))[i].1 (l.map (wOf a2))[i].2 := by
    intro i hi
    have hi' : i < l.length := by simpa using hi
    have hc := h2 i (by omega) (by omega)
    unfold settC at hc
    rw [Bool.and_eq_true, Bool.and_eq_true] at hc
    obtain ⟨⟨c1, c2⟩, -⟩ := hc
    obtain ⟨w1, w2⟩ := inB_iff.1 c1
    obtain ⟨n1, n2⟩ := inB_iff.1 c2
    rw [List.getElem_map, ← rdIT_get hi']
    refine ⟨?_, ?_, ?_, ?_, ?_⟩
    · show wrap64 (wrap64 (rd_T66 l (i : Int)).f0 + a2) = ((wrap64 (rd_T66 l (i : Int)).f0 + a2).toNat : Int)
      rw [w64 (by omega) (by omega)]
      omega
    · show wrap64 (rd_T66 l (i : Int)).f1 = ((wrap64 (rd_T66 l (i : Int)).f1).toNat : Int)
      omega
    · show 1 ≤ (wrap64 (rd_T66 l (i : Int)).f0 + a2).toNat
      omega
    · show (wrap64 (rd_T66 l (i : Int)).f0 + a2).toNat ≤ 1000
      omega
    · show (wrap64 (rd_T66 l (i : Int)).f1).toNat ≤ 1000
      omega
  exact ⟨by omega, ⟨by simp, key⟩, ⟨by simp, key⟩⟩
def waysR (l : List S66) (a1 a2 : Int) : Int × Int := if settsB l = true then (if (inB a1 1 400 && inB a2 0 5) = true then (wrap64 (bwd ways0 (l.map (wOf a2)) (a1 + a2).toNat), 0) else (0, 2)) else (0, 1)
theorem asked_val (l : List S66) (b : Bool) (h : l.length ≤ 1048576) : Ev (fun k => spec_l03Asked.f k l b) (if settsB l = true then (if b = true then 0 else 2) else 1) := by
  unfold spec_l03Asked.f
  refine Ev.bind (specSetts l h) ?_
  refine Ev.if_ (fun hc => Ev.ite_pos hc ?_) (fun hc => Ev.ite_neg hc (Ev.now _))
  exact Ev.if_ (fun hc => Ev.ite_pos hc (Ev.now _)) (fun hc => Ev.ite_neg hc (Ev.now _))
theorem long_val (a : Int) : spec_l03Long.f a = some (inB a 1 400) := by
  unfold spec_l03Long.f
  rw [l00In_val]
  rfl
theorem joint_val (a : Int) : spec_l03Joint.f a = some (inB a 0 5) := by
  unfold spec_l03Joint.f
  rw [l00In_val]
  rfl
theorem specWays (l : List S66) (a1 a2 : Int) (h : l.length ≤ 1048576) : Ev (fun k => spec_WaysToFill.f k l a1 a2) (waysR l a1 a2) := by
  unfold spec_WaysToFill.f
  refine Ev.call (long_val a1) ?_
  have no : ∀ x : Int, x ≠ 0 → Ev (fun k => spec_WaysToFill.j0 k l a1 a2 x) (0, x) := fun x hx => Ev.step (fun k => spec_WaysToFill.j0.eq_2 _ _ _ _ _) (Ev.ite_neg hx (Ev.now _))
  by_cases hv : settsB l = true
  · by_cases h1 : inB a1 1 400 = true
    · refine Ev.ite_pos h1 (Ev.call (joint_val a2) (Ev.bind (asked_val l _ h) ?_))
      rw [if_pos hv]
      by_cases h2 : inB a2 0 5 = true
      · obtain ⟨p0, p1⟩ := inB_iff.1 h1
        obtain ⟨q0, q1⟩ := inB_iff.1 h2
        obtain ⟨hn, -, hg⟩ := setts_good hv a2 q0 q1
        rw [if_pos h2, show waysR l a1 a2 = (wrap64 (bwd ways0 (l.map (wOf a2)) (a1 + a2).toNat), 0) by unfold waysR; rw [if_pos hv, h1, h2]; rfl]
        obtain ⟨N, hN⟩ : ∃ N : Nat, a1 + a2 = (N : Int) := ⟨(a1 + a2).toNat, by omega⟩
        refine Ev.step (fun k => spec_WaysToFill.j0.eq_2 _ _ _ _ _) (Ev.ite_pos rfl ?_)
        rw [w64 (x := a1 + a2) (by omega) (by omega), hN, w64_succ (by omega), Int.toNat_natCast, Int.toNat_natCast]
        refine Ev.ite_pos (by omega) (Ev.ite_pos (by omega) (Ev.call (a := List.replicate (N + 1) 0) rfl (Ev.ite_pos (by rw [List.length_replicate]; omega) ?_)))
        have et : (List.replicate (N + 1) (0 : Int)).set (0 : Int).toNat 1 = tblS N ways0 := by
          apply List.ext_getElem
          · simp [tblS]
          · intro i g1 g2
            simp only [tblS, List.getElem_set, List.getElem_map, List.getElem_range, ways0, List.getElem_replicate]
            by_cases hi : i = 0
            · rw [if_pos (by simp [hi]), if_pos hi, wrap1]
            · rw [if_neg (by simp; omega), if_neg hi, wrap0]
        rw [et, ← fwd_bwd]
        have hw := way0 l a2 _ N (by omega) (by omega) hg l.length 0 ways0 (by omega)
        exact hw
      · rw [if_neg h2, show waysR l a1 a2 = (0, 2) by unfold waysR; rw [if_pos hv, if_neg (by simp [h2])]]
        exact no 2 (by decide)
    · refine Ev.ite_neg h1 (Ev.bind (asked_val l _ h) ?_)
      rw [if_pos hv, show waysR l a1 a2 = (0, 2) by unfold waysR; rw [if_pos hv, if_neg (by simp [h1])]]
      exact no 2 (by decide)
  · rw [show waysR l a1 a2 = (0, 1) from if_neg hv]
    by_cases h1 : inB a1 1 400 = true
    · refine Ev.ite_pos h1 (Ev.call (joint_val a2) (Ev.bind (asked_val l _ h) ?_))
      rw [if_neg hv]
      exact no 1 (by decide)
    · refine Ev.ite_neg h1 (Ev.bind (asked_val l _ h) ?_)
      rw [if_neg hv]
      exact no 1 (by decide)
theorem unless_v (b : Bool) (c : Int) : impl_unless.f b c = some (if b = true then 0 else c) := by
  unfold impl_unless.f
  split <;> rfl
theorem rowCode_val (l : List S66) (a1 a2 : Int) (h : l.length ≤ 1048576) : Ev (fun k => impl_rowCode.f k l a1 a2) (if settsB l = true then (if (inB a1 1 400 && inB a2 0 5) = true then 0 else 2) else 1) := by
  unfold impl_rowCode.f
  refine Ev.bind (implSetts l h) ?_
  refine Ev.if_ (fun hc => Ev.ite_pos hc ?_) (fun hc => Ev.ite_neg hc (Ev.now _))
  refine Ev.call (within_val _ _ _) ?_
  by_cases h1 : inB a1 1 400 = true
  · refine Ev.ite_pos h1 (Ev.call (within_val _ _ _) (Ev.call (unless_v _ _) (Ev.eq_ (Ev.now _) ?_)))
    simp [h1]
  · refine Ev.ite_neg h1 (Ev.call (unless_v _ _) (Ev.eq_ (Ev.now _) ?_))
    simp [h1]
theorem implWays (l : List S66) (a1 a2 : Int) (h : l.length ≤ 1048576) : Ev (fun k => impl_WaysToFill.f k l a1 a2) (waysR l a1 a2) := by
  unfold impl_WaysToFill.f
  refine Ev.bind (rowCode_val l a1 a2 h) ?_
  by_cases hv : settsB l = true
  · by_cases h2 : (inB a1 1 400 && inB a2 0 5) = true
    · rw [if_pos hv, if_pos h2, show waysR l a1 a2 = (wrap64 (bwd ways0 (l.map (wOf a2)) (a1 + a2).toNat), 0) by unfold waysR; rw [if_pos hv, if_pos h2]]
      rw [Bool.and_eq_true] at h2
      obtain ⟨p0, p1⟩ := inB_iff.1 h2.1
      obtain ⟨q0, q1⟩ := inB_iff.1 h2.2
      obtain ⟨hn, hg, -⟩ := setts_good hv a2 q0 q1
      obtain ⟨N, hN⟩ : ∃ N : Nat, a1 + a2 = (N : Int) := ⟨(a1 + a2).toNat, by omega⟩
      rw [w64 (x := a1 + a2) (by omega) (by omega), hN, Int.toNat_natCast]
      refine Ev.ite_pos rfl (Ev.bind (fillings_val l a2 _ N (by omega) (by omega) hg) ?_)
      have hl2 := rowsK_len N (l.map (wOf a2))
      have hh := rowsK_head N (l.map (wOf a2))
      have hf := rowsK_f0 N (l.map (wOf a2)) N (Nat.le_refl _)
      have e0 : rd_L7 (rowsK N (l.map (wOf a2))) 0 = (rowsK N (l.map (wOf a2))).headD [] := by cases rowsK N (l.map (wOf a2)) <;> rfl
      rw [e0, ← hf]
      exact Ev.ite_pos (by omega) (Ev.ite_pos (by omega) (Ev.ite_pos (by omega) (Ev.now _)))
    · rw [if_pos hv, if_neg h2, show waysR l a1 a2 = (0, 2) by unfold waysR; rw [if_pos hv, if_neg h2]]
      exact Ev.ite_neg (by decide) (Ev.now _)
  · rw [if_neg hv, show waysR l a1 a2 = (0, 1) from if_neg hv]
    exact Ev.ite_neg (by decide) (Ev.now _)
theorem pure_FnExactWaysToFill : Pure.FnExactWaysToFill := by
  rintro l a1 a2 ⟨hl, -⟩ - -
  unfold maxLen at hl
  refine Ev.rounds (g := fun k => laws_FnExactWaysToFill.f k l a1 a2) ?_
  unfold laws_FnExactWaysToFill.f
  refine Ev.call (szSetts l _ hl (by omega) (by omega)) ?_
  by_cases h : (1048576 : Int) < l.length
  · rw [if_pos h]
    exact Ev.ite_pos (by decide) (Ev.now _)
  · rw [if_neg h]
    have hS := specWays (l.map settOf) a1 a2 (by simp; omega)
    have hI := implWays (l.map settOf) a1 a2 (by simp; omega)
    generalize waysR (l.map settOf) a1 a2 = R at *
    refine Ev.ite_neg (by omega) (Ev.bind (toSetts l (by omega)) (Ev.bind hS (Ev.bind (toSetts l (by omega)) (Ev.bind hI (Ev.ite_pos rfl ?_)))))
    rw [show (R.2 != R.2) = false by simp]
    exact Ev.step (fun k => laws_FnExactWaysToFill.j0.eq_2 _ _ _ _) (Ev.ite_neg (by decide) (Ev.bind (toSetts l (by omega)) (Ev.bind (eqSetts _ (by simp; omega)) (Ev.ite_pos rfl (Ev.now _)))))
end Go.Proofs.Ytabooaeobpgadaa.Q
