/- Plain facts on the functions by which the laws mark and hold lists of slabs. -/
import Derived.Test.YtpbobnpmiafbbaaQBSlab
namespace Go.Proofs.Ytpbobnpmiafbbaa.Q
open Go.RowKit Go.Proofs.YtpbobnpmiafbbaaW.PrintWords Go.Proofs.YtpbobnpmiafbbaaW.PrintLast Go.Proofs.YtpbobnpmiafbbaaW.PrintMore
set_option linter.unusedSimpArgs false

/-- What slab i of a marked list holds. -/
def markAt (i : Nat) : S84 := ⟨IntKind.i8.wrap (1 + 4 * (i : Int)), IntKind.i8.wrap (1 + 4 * (i : Int) + 1), IntKind.i8.wrap (1 + 4 * (i : Int) + 1 + 1), IntKind.i8.wrap (1 + 4 * (i : Int) + 1 + 1 + 1)⟩
def markedSlabs (n : Nat) : List S84 := (List.range n).map markAt
theorem rdI_set {l : List S84} {i : Nat} {x : S84} (h : i < l.length) : rd_T84 (l.set i x) (i : Int) = x := by
  rw [rdI_get (by simpa using h)]
  simp
theorem markSlabs (l : List S84) (h : l.length ≤ 1125899906842624) : Ev (fun k => laws_markSlabS.f k l 1) (1 + 4 * (l.length : Int), markedSlabs l.length) := by
  unfold laws_markSlabS.f
  have hm : (markedSlabs l.length).length = l.length := by simp [markedSlabs]
  have h0 := Ev.run (L := fun k (s : List S84) (i : Nat) => laws_markSlabS.l0 k s (1 + 4 * (i : Int)) i) l.length (fun i s => s.set i (markAt i)) (fun i s => s.length = l.length ∧ s.take i = (markedSlabs l.length).take i) (1 + 4 * (l.length : Int), markedSlabs l.length) ?_ ?_ (d := l.length) (i := 0) (s := l) (by omega) ⟨rfl, by simp⟩
  · simpa using h0
  · rintro i s hi ⟨h1, h2⟩
    refine ⟨⟨by simpa using h1, ?_⟩, fun r hr => Ev.step (fun k => laws_markSlabS.l0.eq_2 _ _ _ _) ?_⟩
    · show (s.set i (markAt i)).take (i + 1) = _
      rw [show markAt i = (markedSlabs l.length)[i]'(by omega) by simp [markedSlabs]]
      exact take_set_succ (by omega) (by omega) h2
    · refine Ev.ite_pos (by omega) (Ev.ite_pos (ge0 _) (Ev.call rfl (Ev.call rfl (Ev.call rfl ?_))))
      rw [w64_succ (by omega), Int.toNat_natCast, w64 (x := 1 + 4 * (i : Int) + 1) (by omega) (by omega), w64 (x := 1 + 4 * (i : Int) + 1 + 1) (by omega) (by omega), w64 (x := 1 + 4 * (i : Int) + 1 + 1 + 1) (by omega) (by omega), w64 (x := 1 + 4 * (i : Int) + 1 + 1 + 1 + 1) (by omega) (by omega)]
      rw [rdI_set, rdI_set, rdI_set, List.set_set, List.set_set, List.set_set]
      · rw [show (1 + 4 * (i : Int) + 1 + 1 + 1 + 1) = 1 + 4 * ((i + 1 : Nat) : Int) by omega]
        exact hr
      all_goals first | omega | (simp only [List.length_set]; omega)
  · rintro s ⟨h1, h2⟩
    refine Ev.step (fun k => laws_markSlabS.l0.eq_2 _ _ _ _) (Ev.ite_neg (by omega) ?_)
    rw [List.take_of_length_le (by omega), List.take_of_length_le (by omega)] at h2
    rw [h2]
    exact Ev.now _
end Go.Proofs.Ytpbobnpmiafbbaa.Q
