/- Plain facts on the functions by which the laws convert, compare, mark and hold lists of whole numbers. -/
import Derived.Test.YtnabkphkdkdigaaQHInts
import Derived.Test.YtnabkphkdkdigaaQEv
namespace Go.Proofs.Ytnabkphkdkdigaa.Q
open Go.RowKit Go.Proofs.YtnabkphkdkdigaaW.PrintWords Go.Proofs.YtnabkphkdkdigaaW.PrintLast Go.Proofs.YtnabkphkdkdigaaW.PrintMore

theorem toInts (l : List Int) (h : l.length ≤ 35184372088832) : Ev (fun k => laws_toInt64S.f k l) l := by
  unfold laws_toInt64S.f
  refine Ev.ite_pos (ge0 _) (Ev.ite_pos (by simpa using h) ?_)
  refine Ev.run (L := fun k s (i : Nat) => laws_toInt64S.l0 k l s i) l.length (fun i s => s.set i (rd l (i : Int))) (fun i s => s.length = l.length ∧ s.take i = l.take i) l ?_ ?_ (d := l.length) (i := 0) (by omega) ⟨by simp, by simp⟩
  · rintro i s hi ⟨h1, h2⟩
    refine ⟨⟨by simpa using h1, ?_⟩, fun r hr => Ev.step (fun k => laws_toInt64S.l0.eq_2 _ _ _ _) ?_⟩
    · show (s.set i (rd l (i : Int))).take (i + 1) = _
      rw [rd_get hi]
      exact take_set_succ h1 hi h2
    · refine Ev.ite_pos (by omega) (Ev.ite_pos (ge0 _) (Ev.ite_pos (by omega) ?_))
      rw [w64_succ (by omega), Int.toNat_natCast]
      exact hr
  · rintro s ⟨h1, h2⟩
    refine Ev.step (fun k => laws_toInt64S.l0.eq_2 _ _ _ _) (Ev.ite_neg (by omega) ?_)
    rw [List.take_of_length_le (by omega), List.take_of_length_le (Nat.le_refl _)] at h2
    rw [h2]
    exact Ev.now l
theorem eqInts (l : List Int) (h : l.length ≤ 4611686018427387904) : Ev (fun k => laws_eqInt64S.f k l l) true := by
  unfold laws_eqInt64S.f
  refine Ev.ite_pos rfl ?_
  refine Ev.run (L := fun k (_ : Unit) (i : Nat) => laws_eqInt64S.l0 k l l i) l.length (fun _ s => s) (fun _ _ => True) true ?_ ?_ (d := l.length) (i := 0) (s := ()) (by omega) trivial
  · rintro i s hi _
    refine ⟨trivial, fun r hr => Ev.step (fun k => laws_eqInt64S.l0.eq_2 _ _ _ _) ?_⟩
    refine Ev.ite_pos (by omega) (Ev.ite_pos (ge0 _) (Ev.ite_pos (by omega) (Ev.ite_pos rfl ?_)))
    rw [w64_succ (by omega)]
    exact hr
  · intro s _
    exact Ev.step (fun k => laws_eqInt64S.l0.eq_2 _ _ _ _) (Ev.ite_neg (by omega) (Ev.now true))
/-- The numbers 1, 2, .., n: what a marked list holds. -/
def markedInts (n : Nat) : List Int := (List.range n).map fun (j : Nat) => 1 + (j : Int)
theorem markInts (l : List Int) (h : l.length ≤ 4611686018427387904) : Ev (fun k => laws_markInt64S.f k l 1) (1 + (l.length : Int), markedInts l.length) := by
  unfold laws_markInt64S.f
  have h0 := Ev.run (L := fun k (s : List Int) (i : Nat) => laws_markInt64S.l0 k s (1 + (i : Int)) i) l.length (fun i s => s.set i (1 + (i : Int))) (fun i s => s.length = l.length ∧ s.take i = (markedInts l.length).take i) (1 + (l.length : Int), markedInts l.length) ?_ ?_ (d := l.length) (i := 0) (s := l) (by omega) ⟨rfl, by simp⟩
  · simpa using h0
  · rintro i s hi ⟨h1, h2⟩
    have hm : (markedInts l.length).length = l.length := by simp [markedInts]
    refine ⟨⟨by simpa using h1, ?_⟩, fun r hr => Ev.step (fun k => laws_markInt64S.l0.eq_2 _ _ _ _) ?_⟩
    · have e : (1 + (i : Int)) = (markedInts l.length)[i]'(by omega) := by simp [markedInts]
      show (s.set i (1 + (i : Int))).take (i + 1) = _
      rw [e]
      exact take_set_succ (by omega) (by omega) h2
    · refine Ev.ite_pos (by omega) (Ev.ite_pos (ge0 _) ?_)
      rw [w64_succ (by omega), Int.toNat_natCast, w64 (by omega) (by omega), show (1 + (i : Int) + 1) = 1 + ((i + 1 : Nat) : Int) by omega]
      exact hr
  · rintro s ⟨h1, h2⟩
    have hm : (markedInts l.length).length = l.length := by simp [markedInts]
    refine Ev.step (fun k => laws_markInt64S.l0.eq_2 _ _ _ _) (Ev.ite_neg (by omega) ?_)
    rw [List.take_of_length_le (by omega), List.take_of_length_le (by omega)] at h2
    rw [h2]
    exact Ev.now _
theorem heldInts (n : Nat) (h : n ≤ 4611686018427387904) : Ev (fun k => laws_heldInt64S.f k (markedInts n) 1) (1 + (n : Int)) := by
  unfold laws_heldInt64S.f
  have hm : (markedInts n).length = n := by simp [markedInts]
  have h0 := Ev.run (L := fun k (_ : Unit) (i : Nat) => laws_heldInt64S.l0 k (markedInts n) (1 + (i : Int)) i) n (fun _ s => s) (fun _ _ => True) (1 + (n : Int)) ?_ ?_ (d := n) (i := 0) (s := ()) (by omega) trivial
  · simpa using h0
  · rintro i s hi _
    refine ⟨trivial, fun r hr => Ev.step (fun k => laws_heldInt64S.l0.eq_2 _ _ _ _) ?_⟩
    refine Ev.ite_pos (by omega) (Ev.ite_pos (ge0 _) (Ev.ite_pos ?_ ?_))
    · rw [rd_get (by omega)]
      simp [markedInts]
    · rw [w64_succ (by omega), w64 (by omega) (by omega), show (1 + (i : Int) + 1) = 1 + ((i + 1 : Nat) : Int) by omega]
      exact hr
  · intro s _
    exact Ev.step (fun k => laws_heldInt64S.l0.eq_2 _ _ _ _) (Ev.ite_neg (by omega) (Ev.now _))
end Go.Proofs.Ytnabkphkdkdigaa.Q
