/- Plain facts on lists of cells (points): copied, measured, compared. -/
import Derived.Test.YthbgebikdleblaaQHCell
import Derived.Test.YthbgebikdleblaaQ1
import Derived.Test.YthbgebikdleblaaQEv
namespace Go.Proofs.Ythbgebikdleblaa.Q
open Go.RowKit Go.Proofs.YthbgebikdleblaaW.PrintWords Go.Proofs.YthbgebikdleblaaW.PrintLast Go.Proofs.YthbgebikdleblaaW.PrintMore
set_option linter.unusedVariables false
set_option linter.unusedSimpArgs false
def cellOf (x : S45) : S41 := ⟨x.f0, x.f1⟩
theorem rdLC_get {l : List S45} {i : Nat} (h : i < l.length) : rd_T45 l (i : Int) = l[i] := by
  unfold rd_T45
  rw [Int.toNat_natCast, List.getD_eq_getElem?_getD, List.getElem?_eq_getElem h]
  rfl
theorem toCells (l : List S45) (h : l.length ≤ 35184372088832) : Ev (fun k => laws_toCellS.f k l) (l.map cellOf) := by
  unfold laws_toCellS.f
  have e0 : ((l.length : Int)).toNat = l.length := Int.toNat_natCast _
  rw [e0]
  refine Ev.ite_pos (ge0 _) (Ev.ite_pos (by omega) ?_)
  refine Ev.run (L := fun k (s : List S41) (i : Nat) => laws_toCellS.l0 k l s i) l.length (fun i s => s.set i (cellOf (rd_T45 l i))) (fun i s => s.length = l.length ∧ s.take i = (l.map cellOf).take i) (l.map cellOf) ?_ ?_ (d := l.length) (i := 0) (s := List.replicate l.length z41) (by omega) ⟨by simp, by simp⟩
  · rintro i s hi ⟨h1, h2⟩
    refine ⟨⟨by simpa using h1, ?_⟩, fun r hr => Ev.step (fun k => laws_toCellS.l0.eq_2 _ _ _ _) ?_⟩
    · have e : cellOf (rd_T45 l (i : Int)) = (l.map cellOf)[i]'(by simpa using hi) := by rw [rdLC_get hi]; simp
      show (s.set i (cellOf (rd_T45 l (i : Int)))).take (i + 1) = _
      rw [e]
      exact take_set_succ (by simp; omega) (by simpa using hi) h2
    · refine Ev.ite_pos (by omega) (Ev.ite_pos (ge0 _) (Ev.call rfl (Ev.ite_pos (by omega) ?_)))
      rw [w64_succ (by omega), Int.toNat_natCast]
      exact hr
  · rintro s ⟨h1, h2⟩
    refine Ev.step (fun k => laws_toCellS.l0.eq_2 _ _ _ _) (Ev.ite_neg (by omega) ?_)
    rw [List.take_of_length_le (by omega), List.take_of_length_le (by simp)] at h2
    rw [h2]
    exact Ev.now _
theorem eqCell_refl (a b : Int) : laws_eqCell.f a b a b = some true := by simp [laws_eqCell.f]
theorem eqCells (l : List S41) (h : l.length ≤ 4611686018427387904) : Ev (fun k => laws_eqCellS.f k l l) true := by
  unfold laws_eqCellS.f
  refine Ev.ite_pos rfl ?_
  refine Ev.run (L := fun k (_ : Unit) (i : Nat) => laws_eqCellS.l0 k l l i) l.length (fun _ s => s) (fun _ _ => True) true ?_ ?_ (d := l.length) (i := 0) (s := ()) (by omega) trivial
  · rintro i s hi _
    refine ⟨trivial, fun r hr => Ev.step (fun k => laws_eqCellS.l0.eq_2 _ _ _ _) ?_⟩
    refine Ev.ite_pos (by omega) (Ev.ite_pos (ge0 _) (Ev.ite_pos (by omega) (Ev.call (eqCell_refl _ _) (Ev.ite_pos rfl ?_))))
    rw [w64_succ (by omega)]
    exact hr
  · intro s _
    exact Ev.step (fun k => laws_eqCellS.l0.eq_2 _ _ _ _) (Ev.ite_neg (by omega) (Ev.now true))
theorem szCells (l : List S45) (n : Int) (h : l.length ≤ 9223372036854775807) (h0 : 0 ≤ n) (h1 : n ≤ 1048576) : laws_szCellS.f l n = some (if n < l.length then -1 else n - l.length) := by
  unfold laws_szCellS.f
  rw [w64 (by omega) (by omega)]
  by_cases hc : n < l.length
  · rw [if_pos hc, if_pos (by omega)]
  · rw [if_neg hc, if_neg (by omega)]
def cellNe (l m : List S41) (i : Nat) : Bool := (!(((rd_T41 l i).f0) == ((rd_T41 m i).f0)) || (!(((rd_T41 l i).f1) == ((rd_T41 m i).f1))))
def cellsB (l m : List S41) : Bool := if l.length = m.length then loopV (fun i (_ : Unit) => !cellNe l m i) (fun _ s => s) (fun _ _ => false) (fun _ => true) l.length 0 () else false
theorem specCells (l m : List S41) (h : l.length ≤ 1048576) : Ev (fun k => spec_SameCells.f k l m) (cellsB l m) := by
  unfold spec_SameCells.f cellsB
  refine Ev.if_ (fun hl => Ev.ite_pos (by omega) ?_) (fun hl => Ev.ite_neg (by omega) (Ev.now _))
  refine Ev.loop (L := fun k (_ : Unit) (i : Nat) => spec_SameCells.l0 k l m i) l.length _ _ _ _ (fun _ _ => True) ?_ ?_ ?_ l.length 0 () (by omega) trivial
  · rintro i s hi _ hc
    refine ⟨trivial, fun r hr => Ev.step (fun k => spec_SameCells.l0.eq_2 _ _ _ _) ?_⟩
    rw [w64_succ (by omega)]
    exact Ev.ite_pos (by omega) (Ev.ite_pos (ge0 _) (Ev.ite_pos (by omega) (Ev.ite_neg (by simpa [cellNe] using hc) hr)))
  · rintro i s hi _ hc
    refine Ev.step (fun k => spec_SameCells.l0.eq_2 _ _ _ _) ?_
    exact Ev.ite_pos (by omega) (Ev.ite_pos (ge0 _) (Ev.ite_pos (by omega) (Ev.ite_pos (by have hc' := hc; simp [cellNe] at hc' ⊢; omega) (Ev.now _))))
  · intro s _
    exact Ev.step (fun k => spec_SameCells.l0.eq_2 _ _ _ _) (Ev.ite_neg (by omega) (Ev.now _))
theorem implCells (l m : List S41) (h : l.length ≤ 1048576) : Ev (fun k => impl_Cell.f k l m) (cellsB l m) := by
  unfold impl_Cell.f cellsB
  refine Ev.if_ (fun hl => Ev.ite_pos (by omega) ?_) (fun hl => Ev.ite_neg (by omega) (Ev.now _))
  refine Ev.loop (L := fun k (_ : Unit) (i : Nat) => impl_Cell.l0 k l m l.length i) l.length _ _ _ _ (fun _ _ => True) ?_ ?_ ?_ l.length 0 () (by omega) trivial
  · rintro i s hi _ hc
    refine ⟨trivial, fun r hr => Ev.step (fun k => impl_Cell.l0.eq_2 _ _ _ _ _) ?_⟩
    rw [w64_succ (by omega)]
    exact Ev.ite_pos (by omega) (Ev.ite_pos (ge0 _) (Ev.ite_pos (by omega) (Ev.ite_pos (by omega) (Ev.ite_neg (by simpa [cellNe] using hc) hr))))
  · rintro i s hi _ hc
    refine Ev.step (fun k => impl_Cell.l0.eq_2 _ _ _ _ _) ?_
    exact Ev.ite_pos (by omega) (Ev.ite_pos (ge0 _) (Ev.ite_pos (by omega) (Ev.ite_pos (by omega) (Ev.ite_pos (by have hc' := hc; simp [cellNe] at hc' ⊢; omega) (Ev.now _)))))
  · intro s _
    exact Ev.step (fun k => impl_Cell.l0.eq_2 _ _ _ _ _) (Ev.ite_neg (by omega) (Ev.now _))
/-- What the walk of the law asks of the two lists of cells. -/
theorem groundFacts (la lb : List S45) (ha : la.length ≤ maxLen) (hb : lb.length ≤ maxLen) : ∃ (k : Nat) (la2 lb2 : List S41) (r : Bool) (r1 r2 : Int),
    laws_szCellS.f la 1048576 = some r1 ∧ (r1 < 0 ∨ laws_szCellS.f lb r1 = some r2) ∧
    (r1 < 0 ∨ r2 < 0 ∨ (laws_toCellS.f k la = some la2 ∧ laws_toCellS.f k lb = some lb2 ∧ spec_SameCells.f k la2 lb2 = some r ∧ impl_Cell.f k la2 lb2 = some r ∧ laws_eqCellS.f k la2 la2 = some true ∧ laws_eqCellS.f k lb2 lb2 = some true)) := by
  unfold maxLen at ha hb
  by_cases h : (1048576 : Int) < la.length
  · exact ⟨0, [], [], false, -1, 0, by rw [szCells _ _ ha (by omega) (by omega), if_pos h], .inl (by decide), .inl (by decide)⟩
  · by_cases h2 : (1048576 : Int) - la.length < lb.length
    · exact ⟨0, [], [], false, 1048576 - la.length, -1, by rw [szCells _ _ ha (by omega) (by omega), if_neg h], .inr (by rw [szCells _ _ hb (by omega) (by omega), if_pos h2]), .inr (.inl (by decide))⟩
    · obtain ⟨k1, q1⟩ := toCells la (by omega)
      obtain ⟨k2, q2⟩ := toCells lb (by omega)
      obtain ⟨k3, q3⟩ := specCells (la.map cellOf) (lb.map cellOf) (by simp; omega)
      obtain ⟨k4, q4⟩ := implCells (la.map cellOf) (lb.map cellOf) (by simp; omega)
      obtain ⟨k5, q5⟩ := eqCells (la.map cellOf) (by simp; omega)
      obtain ⟨k6, q6⟩ := eqCells (lb.map cellOf) (by simp; omega)
      refine ⟨k1 + k2 + k3 + k4 + k5 + k6, la.map cellOf, lb.map cellOf, cellsB (la.map cellOf) (lb.map cellOf), 1048576 - la.length, 1048576 - la.length - lb.length, by rw [szCells _ _ ha (by omega) (by omega), if_neg h], .inr (by rw [szCells _ _ hb (by omega) (by omega), if_neg h2]), .inr (.inr ⟨q1 _ (by omega), q2 _ (by omega), q3 _ (by omega), q4 _ (by omega), q5 _ (by omega), q6 _ (by omega)⟩)⟩
end Go.Proofs.Ythbgebikdleblaa.Q
