/- Plain facts on setts: what valid ones are, and the codes of what is asked. -/
import Derived.Test.YtabooaeobpgadaaXQBWays
import Derived.Test.YtabooaeobpgadaaXQBMin
import Derived.Test.YtabooaeobpgadaaXQ13
import Derived.Test.YtabooaeobpgadaaXQ9
import Derived.Test.YtabooaeobpgadaaXQBPick
namespace Go.Proofs.Ytabooaeobpgadaa.Q
open Go.RowKit Go.Proofs.YtabooaeobpgadaaW.PrintWords Go.Proofs.YtabooaeobpgadaaW.PrintLast Go.Proofs.YtabooaeobpgadaaW.PrintMore
set_option linter.unusedVariables false
set_option linter.unusedSimpArgs false
theorem loopV_all {c : Nat → Bool} {z : Bool} : ∀ d i, loopV (fun i (_ : Unit) => c i) (fun _ s => s) (fun _ _ => false) (fun _ => z) d i () = true → z = true ∧ ∀ j, i ≤ j → j < i + d → c j = true
 | 0, i, h => ⟨h, fun j h1 h2 => by omega⟩
 | d + 1, i, h => by
  unfold loopV at h
  by_cases hc : c i = true
  ·
   rw [if_pos hc] at h
   obtain ⟨h1, h2⟩ := loopV_all d (i + 1) h
   refine ⟨h1, fun j h3 h4 => ?_⟩
   by_cases h5 : j = i
   · rw [h5]; exact hc
   · exact h2 j (by omega) (by omega)
  ·
   rw [if_neg hc] at h
   cases h
theorem setts_good {l : List S66} (h : settsB l = true) (a2 : Int) (h0 : 0 ≤ a2) (h5 : a2 ≤ 5) : l.length ≤ 6 ∧ goodL a2 l (l.map (wOf a2)) ∧ True := by
 obtain ⟨h1, h2⟩ := loopV_all l.length 0 h
 have hn := (inB_iff.1 h1).2
 have key : ∀ i (hi : i < (l.map (wOf a2)).length), goodS a2 (rd_T66 l (i : Int)) (l.map (wOf a2))[i].1 (l.map (wOf a2))[i].2 := by
  intro i hi
  have hi' : i < l.length := by simpa using hi
  have hc := h2 i (by omega) (by omega)
  unfold settC at hc
  rw [Bool.and_eq_true, Bool.and_eq_true] at hc
  obtain ⟨⟨c1, c2⟩, -⟩ := hc
  obtain ⟨w1, w2⟩ := inB_iff.1 c1
  obtain ⟨n1, n2⟩ := inB_iff.1 c2
  rw [List.getElem_map, ← rdIT_get hi']
  refine ⟨?_, ?_, ?_, ?_, ?_⟩
  ·
   show wrap64 (wrap64 (rd_T66 l (i : Int)).f0 + a2) = ((wrap64 (rd_T66 l (i : Int)).f0 + a2).toNat : Int)
   rw [w64 (by omega) (by omega)]
   omega
  ·
   show wrap64 (rd_T66 l (i : Int)).f1 = ((wrap64 (rd_T66 l (i : Int)).f1).toNat : Int)
   omega
  ·
   show 1 ≤ (wrap64 (rd_T66 l (i : Int)).f0 + a2).toNat
   omega
  ·
   show (wrap64 (rd_T66 l (i : Int)).f0 + a2).toNat ≤ 1000
   omega
  ·
   show (wrap64 (rd_T66 l (i : Int)).f1).toNat ≤ 1000
   omega
 exact ⟨by omega, ⟨by simp, key⟩, trivial⟩
theorem setts_fine {l : List S66} (h : settsB l = true) (a2 : Int) : fineW (l.map (wOf a2)) := by
 obtain ⟨h1, h2⟩ := loopV_all l.length 0 h
 refine ⟨by have := (inB_iff.1 h1).2; simp; omega, fun x hx => ?_⟩
 obtain ⟨s, hs, rfl⟩ := List.mem_map.1 hx
 obtain ⟨i, hi, rfl⟩ := List.getElem_of_mem hs
 have hc := h2 i (by omega) (by omega)
 unfold settC at hc
 rw [Bool.and_eq_true, Bool.and_eq_true] at hc
 obtain ⟨⟨c1, c2⟩, -⟩ := hc
 obtain ⟨n1, n2⟩ := inB_iff.1 c2
 rw [rdIT_get hi] at n1 n2
 show (wrap64 (l[i]).f1).toNat ≤ 60
 omega
theorem asked_val (l : List S66) (b : Bool) (h : l.length ≤ 1048576) : Ev (fun k => spec_l03Asked.f k l b) (if settsB l = true then (if b = true then 0 else 2) else 1) := by
 unfold spec_l03Asked.f
 refine Ev.bind (specSetts l h) ?_
 refine Ev.if_ (fun hc => Ev.ite_pos hc ?_) (fun hc => Ev.ite_neg hc (Ev.now _))
 exact Ev.if_ (fun hc => Ev.ite_pos hc (Ev.now _)) (fun hc => Ev.ite_neg hc (Ev.now _))
theorem long_val (a : Int) : spec_l03Long.f a = some (inB a 1 400) := by
 unfold spec_l03Long.f
 rw [l00In_val]
 rfl
theorem joint_val (a : Int) : spec_l03Joint.f a = some (inB a 0 5) := by
 unfold spec_l03Joint.f
 rw [l00In_val]
 rfl
theorem unless_v (b : Bool) (c : Int) : impl_unless.f b c = some (if b = true then 0 else c) := by
 unfold impl_unless.f
 split <;> rfl
theorem rowCode_val (l : List S66) (a1 a2 : Int) (h : l.length ≤ 1048576) : Ev (fun k => impl_rowCode.f k l a1 a2) (if settsB l = true then (if (inB a1 1 400 && inB a2 0 5) = true then 0 else 2) else 1) := by
 unfold impl_rowCode.f
 refine Ev.bind (implSetts l h) ?_
 refine Ev.if_ (fun hc => Ev.ite_pos hc ?_) (fun hc => Ev.ite_neg hc (Ev.now _))
 refine Ev.call (within_val _ _ _) ?_
 by_cases h1 : inB a1 1 400 = true
 ·
  refine Ev.ite_pos h1 (Ev.call (within_val _ _ _) (Ev.call (unless_v _ _) (Ev.eq_ (Ev.now _) ?_)))
  simp [h1]
 ·
  refine Ev.ite_neg h1 (Ev.call (unless_v _ _) (Ev.eq_ (Ev.now _) ?_))
  simp [h1]
end Go.Proofs.Ytabooaeobpgadaa.Q
