/- '==' at a row of arrays of whole numbers. -/
import Derived.Test.YthbgebikdleblaaQGrB
import Derived.ChangeKeysEq
import Derived.Laws.StructEq
namespace Go.Proofs.Ythbgebikdleblaa.Q
open Go.RowKit Go.Proofs.YthbgebikdleblaaW.PrintWords Go.Proofs.YthbgebikdleblaaW.PrintLast Go.Proofs.YthbgebikdleblaaW.PrintMore
set_option linter.unusedVariables false
set_option linter.unusedSimpArgs false
namespace Gr
theorem info23 : ∃ i, Try.prog.info? 23 = some i := Option.isSome_iff_exists.1 (show (Try.prog.info? 23).isSome = true by kernel_rfl)
theorem eq_items9 (d : Nat) (l m : List Int) (w : World) : ∀ is : List Nat, (∀ i ∈ is, i < l.length ∧ i < m.length) → (Op.eqItems (d + 1) 23 1 (ints l).toArray (ints m).toArray is).run Try.prog w = .ok (is.all fun i => decide (l.getD i 0 = m.getD i 0)) w
  | [], _ => by simp [Op.eqItems]
  | i :: is, h => by
    obtain ⟨h1, h2⟩ := h i (by simp)
    have ih := eq_items9 d l m w is (fun j hj => h j (by simp [hj]))
    have px : (part 23 (ints l).toArray (i * 1)).run Try.prog w = .ok (.int .i16 (l.getD i 0)) w := by
      simp [part, isAgg, run_underlying Try.underlying23, ints, h1]
    have py : (part 23 (ints m).toArray (i * 1)).run Try.prog w = .ok (.int .i16 (m.getD i 0)) w := by
      simp [part, isAgg, run_underlying Try.underlying23, ints, h2]
    have pe := run_equalIn_int (P := Try.prog) w d 23 .i16 .i16 (l.getD i 0) (m.getD i 0) Try.underlying23
    simp only [Op.eqItems, Sem.run_bind, px, py, pe, Result.andThen_ok, List.all_cons]
    generalize l.getD i 0 = a
    generalize m.getD i 0 = b
    by_cases c : a = b
    · simpa [c] using ih
    · simp [c]
theorem all_eq {l m : List Int} (h : l.length = m.length) : ((List.range l.length).all fun i => decide (l.getD i 0 = m.getD i 0)) = decide (l = m) := by
  rw [Bool.eq_iff_iff, List.all_eq_true, decide_eq_true_iff]
  constructor
  · intro ha
    apply List.ext_getElem h
    intro i h1 h2
    have := of_decide_eq_true (ha i (List.mem_range.2 h1))
    simpa [h1, h2] using this
  · rintro rfl i _
    simp
theorem eq_row (d : Nat) (l m : List Int) (hl : l.length = 9) (hm : m.length = 9) (w : World) : (Op.equalIn (d + 2) 24 (.agg (ints l).toArray) (.agg (ints m).toArray)).run Try.prog w = .ok (decide (l = m)) w := by
  obtain ⟨i, hi⟩ := info23
  rw [run_equalIn_array w (d + 1) (i := i) _ _ Try.underlying24 hi, show Try.prog.cellsOf 23 = 1 by kernel_rfl, eq_items9 d l m w _ (fun j hj => by have := List.mem_range.1 hj; omega), ← all_eq (by omega), hl]
theorem info24 : ∃ i, Try.prog.info? 24 = some i := Option.isSome_iff_exists.1 (show (Try.prog.info? 24).isSome = true by kernel_rfl)
theorem part24 (l : List Int) (o : Nat) (h : o + 9 ≤ l.length) (w : World) : (part 24 (ints l).toArray o).run Try.prog w = .ok (.agg (ints ((l.drop o).take 9)).toArray) w := by
  obtain ⟨i, hi⟩ := info24
  have hs := size9
  rw [hi] at hs
  have hs' : i.size = 9 := by simpa using hs
  have ha : (isAgg 24).run Try.prog w = .ok true w := by
    unfold isAgg
    rw [Sem.run_bind, run_underlying Try.underlying24 w]
    rfl
  have e : (ints l).toArray.extract o (o + 9) = (ints ((l.drop o).take 9)).toArray := by
    simp [ints, List.map_take, List.map_drop]
  simp [part, Sem.run_bind, ha, sizeOf, typeInfo, hi, hs', ints]
theorem eq_items81 (d : Nat) (l m : List Int) (w : World) : ∀ is : List Nat, (∀ i ∈ is, i * 9 + 9 ≤ l.length ∧ i * 9 + 9 ≤ m.length) → (Op.eqItems (d + 2) 24 9 (ints l).toArray (ints m).toArray is).run Try.prog w = .ok (is.all fun i => decide ((l.drop (i * 9)).take 9 = (m.drop (i * 9)).take 9)) w
  | [], _ => by simp [Op.eqItems]
  | i :: is, h => by
    obtain ⟨h1, h2⟩ := h i (by simp)
    have ih := eq_items81 d l m w is (fun j hj => h j (by simp [hj]))
    have px := part24 l (i * 9) h1 w
    have py := part24 m (i * 9) h2 w
    have pe := eq_row d ((l.drop (i * 9)).take 9) ((m.drop (i * 9)).take 9) (by rw [List.length_take, List.length_drop]; omega) (by rw [List.length_take, List.length_drop]; omega) w
    simp only [Op.eqItems, Sem.run_bind, px, py, pe, Result.andThen_ok, List.all_cons]
    by_cases c : (l.drop (i * 9)).take 9 = (m.drop (i * 9)).take 9
    · simp [c, ih]
    · simp [c]
theorem rows_eq {l m : List Int} : ∀ n : Nat, (∀ i, i < n → (l.drop (i * 9)).take 9 = (m.drop (i * 9)).take 9) → l.take (n * 9) = m.take (n * 9)
  | 0, _ => by simp
  | n + 1, h => by
    rw [show (n + 1) * 9 = n * 9 + 9 by omega, List.take_add, List.take_add, rows_eq n (fun i hi => h i (by omega)), h n (by omega)]
theorem eq_grid (l m : List Int) (hl : l.length = 81) (hm : m.length = 81) (w : World) : (Op.equalIn 10000 25 (.agg (ints l).toArray) (.agg (ints m).toArray)).run Try.prog w = .ok (decide (l = m)) w := by
  obtain ⟨i, hi⟩ := info24
  rw [show (10000 : Nat) = 9997 + 2 + 1 from rfl, run_equalIn_array w (9997 + 2) (i := i) _ _ Try.underlying25 hi, show Try.prog.cellsOf 24 = 9 by kernel_rfl, eq_items81 9997 l m w _ (fun j hj => by have := List.mem_range.1 hj; omega)]
  congr 1
  rw [Bool.eq_iff_iff, List.all_eq_true, decide_eq_true_iff]
  constructor
  · intro ha
    have h := rows_eq (l := l) (m := m) 9 (fun i hi => of_decide_eq_true (ha i (List.mem_range.2 hi)))
    rwa [List.take_of_length_le (by omega), List.take_of_length_le (by omega)] at h
  · rintro rfl i _
    simp
end Gr
end Go.Proofs.Ythbgebikdleblaa.Q
