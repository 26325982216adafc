/- Plain facts on the functions by which the laws convert and compare lists of slabs. -/
import Derived.Test.YtpbobnpmiafbbaaQHSlab
import Derived.Test.YtpbobnpmiafbbaaQEv
namespace Go.Proofs.Ytpbobnpmiafbbaa.Q
open Go.RowKit Go.Proofs.YtpbobnpmiafbbaaW.PrintWords Go.Proofs.YtpbobnpmiafbbaaW.PrintLast Go.Proofs.YtpbobnpmiafbbaaW.PrintMore
set_option linter.unusedSimpArgs false

abbrev Sl := S84
def slabOf (x : S87) : S84 := ⟨x.f0, x.f1, x.f2, x.f3⟩
theorem rdL_get {l : List S87} {i : Nat} (h : i < l.length) : rd_T87 l (i : Int) = l[i] := by
  unfold rd_T87
  rw [Int.toNat_natCast, List.getD_eq_getElem?_getD, List.getElem?_eq_getElem h]
  rfl
theorem rdI_get {l : List S84} {i : Nat} (h : i < l.length) : rd_T84 l (i : Int) = l[i] := by
  unfold rd_T84
  rw [Int.toNat_natCast, List.getD_eq_getElem?_getD, List.getElem?_eq_getElem h]
  rfl
theorem toSlabs (l : List S87) (h : l.length ≤ 35184372088832) : Ev (fun k => laws_toSlabS.f k l) (l.map slabOf) := by
  unfold laws_toSlabS.f
  refine Ev.ite_pos (ge0 _) (Ev.ite_pos (by rw [Int.toNat_natCast]; omega) ?_)
  refine Ev.run (L := fun k s (i : Nat) => laws_toSlabS.l0 k l s i) l.length (fun i s => s.set i (slabOf (rd_T87 l (i : Int)))) (fun i s => s.length = l.length ∧ s.take i = (l.map slabOf).take i) (l.map slabOf) ?_ ?_ (d := l.length) (i := 0) (by omega) ⟨by simp, by simp⟩
  · rintro i s hi ⟨h1, h2⟩
    refine ⟨⟨by simpa using h1, ?_⟩, fun r hr => Ev.step (fun k => laws_toSlabS.l0.eq_2 _ _ _ _) ?_⟩
    · show (s.set i (slabOf (rd_T87 l (i : Int)))).take (i + 1) = _
      rw [rdL_get hi, show slabOf l[i] = (l.map slabOf)[i]'(by simpa using hi) by simp]
      exact take_set_succ (by simpa using h1) (by simpa using hi) h2
    · refine Ev.ite_pos (by omega) (Ev.ite_pos (ge0 _) (Ev.call rfl (Ev.ite_pos (by omega) ?_)))
      rw [w64_succ (by omega), Int.toNat_natCast]
      exact hr
  · rintro s ⟨h1, h2⟩
    refine Ev.step (fun k => laws_toSlabS.l0.eq_2 _ _ _ _) (Ev.ite_neg (by omega) ?_)
    rw [List.take_of_length_le (by omega), List.take_of_length_le (by simp)] at h2
    rw [h2]
    exact Ev.now _
theorem eqSlab_refl (a b c d : Int) : laws_eqSlab.f a b c d a b c d = some true := by simp [laws_eqSlab.f]
theorem eqSlabs (l : List S84) (h : l.length ≤ 4611686018427387904) : Ev (fun k => laws_eqSlabS.f k l l) true := by
  unfold laws_eqSlabS.f
  refine Ev.ite_pos rfl ?_
  refine Ev.run (L := fun k (_ : Unit) (i : Nat) => laws_eqSlabS.l0 k l l i) l.length (fun _ s => s) (fun _ _ => True) true ?_ ?_ (d := l.length) (i := 0) (s := ()) (by omega) trivial
  · rintro i s hi _
    refine ⟨trivial, fun r hr => Ev.step (fun k => laws_eqSlabS.l0.eq_2 _ _ _ _) ?_⟩
    refine Ev.ite_pos (by omega) (Ev.ite_pos (ge0 _) (Ev.ite_pos (by omega) (Ev.call (eqSlab_refl _ _ _ _) (Ev.ite_pos rfl ?_))))
    rw [w64_succ (by omega)]
    exact hr
  · intro s _
    exact Ev.step (fun k => laws_eqSlabS.l0.eq_2 _ _ _ _) (Ev.ite_neg (by omega) (Ev.now true))
theorem szSlabs (l : List S87) (n : Int) (h : l.length ≤ 9223372036854775807) (h0 : 0 ≤ n) (h1 : n ≤ 1048576) : laws_szSlabS.f l n = some (if n < l.length then -1 else n - l.length) := by
  unfold laws_szSlabS.f
  rw [w64 (by omega) (by omega)]
  by_cases hc : n < l.length
  · rw [if_pos (by omega), if_pos hc]
  · rw [if_neg (by omega), if_neg hc]
end Go.Proofs.Ytpbobnpmiafbbaa.Q
