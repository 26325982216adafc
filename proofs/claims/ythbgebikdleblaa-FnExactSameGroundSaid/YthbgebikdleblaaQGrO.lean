/- How a ground, with its array of arrays, opens as data. -/
import Derived.Test.YthbgebikdleblaaQOpn
import Derived.Test.YthbgebikdleblaaQGrA
import Derived.OpenShut
namespace Go.Proofs.Ythbgebikdleblaa.Q
open Go.RowKit Go.Proofs.YthbgebikdleblaaW.PrintWords Go.Proofs.YthbgebikdleblaaW.PrintLast Go.Proofs.YthbgebikdleblaaW.PrintMore
set_option linter.unusedVariables false
set_option linter.unusedSimpArgs false
namespace Gr
theorem ints_of : ∀ (n : Nat) (cs : List Value), cs.length = n → (∀ i, i < n → ∃ z, (cs.drop (i * 1)).take 1 = [.int .i16 z]) → ∃ l : List Int, l.length = n ∧ cs = ints l
  | 0, cs, hl, _ => ⟨[], rfl, List.eq_nil_of_length_eq_zero hl⟩
  | n + 1, [], hl, _ => by simp at hl
  | n + 1, c :: cs, hl, h => by
    obtain ⟨z, hz⟩ := h 0 (by omega)
    obtain ⟨l, h1, h2⟩ := ints_of n cs (by simpa using hl) (fun i hi => by
      obtain ⟨y, hy⟩ := h (i + 1) (by omega)
      exact ⟨y, by simpa using hy⟩)
    have hc : c = .int .i16 z := by simpa using hz
    exact ⟨z :: l, by simp [h1], by rw [hc, h2]; rfl⟩
theorem rows_of : ∀ (n : Nat) (cs : List Value), cs.length = n * 9 → (∀ i, i < n → ∃ l : List Int, l.length = 9 ∧ (cs.drop (i * 9)).take 9 = ints l) → ∃ l : List Int, l.length = n * 9 ∧ cs = ints l
  | 0, cs, hl, _ => ⟨[], rfl, List.eq_nil_of_length_eq_zero (by simpa using hl)⟩
  | n + 1, cs, hl, h => by
    obtain ⟨l0, h0, e0⟩ := h 0 (by omega)
    obtain ⟨l, h1, h2⟩ := rows_of n (cs.drop 9) (by rw [List.length_drop]; omega) (fun i hi => by
      obtain ⟨y, hy, e⟩ := h (i + 1) (by omega)
      exact ⟨y, hy, by rw [List.drop_drop, show 9 + i * 9 = (i + 1) * 9 by omega]; exact e⟩)
    refine ⟨l0 ++ l, by rw [List.length_append]; omega, ?_⟩
    have e0' : cs.take 9 = ints l0 := by simpa using e0
    rw [← List.take_append_drop 9 cs, e0', h2]
    simp [ints]
section
variable {H : Type} {enc : TypeId × Value → H} {w : World} {base : Nat} {spare : Nat → Bool} {held : Bool} {fuel : Nat} {cs : List Value} {x : DataW H × List MemPlace}
theorem open24 (h : DataW.trod enc Try.prog w base spare held fuel 24 cs = some x) : ∃ l : List Int, l.length = 9 ∧ cs = ints l := by
  obtain ⟨xs, m, _, _, hlen, hxl, hg⟩ := DataW.trod_array Try.underlying24 h
  refine ints_of 9 cs (hlen.trans (by kernel_rfl)) (fun i hi => ?_)
  have g := hg i hi
  rw [List.getElem?_eq_getElem (by omega), show Try.prog.cellsOf 23 = 1 by kernel_rfl] at g
  obtain ⟨z, hz, _⟩ := DataW.trod_int Try.underlying23 g
  exact ⟨z, hz⟩
theorem open25 (h : DataW.trod enc Try.prog w base spare held fuel 25 cs = some x) : ∃ l : List Int, l.length = 81 ∧ cs = ints l := by
  obtain ⟨xs, m, _, _, hlen, hxl, hg⟩ := DataW.trod_array Try.underlying25 h
  refine rows_of 9 cs (hlen.trans (by kernel_rfl)) (fun i hi => ?_)
  have g := hg i hi
  rw [List.getElem?_eq_getElem (by omega), show Try.prog.cellsOf 24 = 9 by kernel_rfl] at g
  exact open24 g
end
theorem opens45 : Opens Try.prog 45 k45 (fun _ => True) := by
  intro H enc w base spare held fuel cs x h
  obtain ⟨xs, n, _, _, hlen, hxl, hg⟩ := DataW.trod_struct Try.underlying45 h
  have hlen2 : cs.length = 2 := hlen.trans (by kernel_rfl)
  match cs, hlen2 with
  | [c0, c1], _ =>
    have g0 := hg 0 _ rfl
    have s0 : xs[0]? = some (xs[0]'(by rw [hxl]; decide)) := List.getElem?_eq_getElem _
    rw [s0] at g0
    replace g0 : DataW.trod enc Try.prog w base spare held n 22 [c0] = _ := g0
    obtain ⟨y0, w0, K0⟩ := (opens_int Try.underlying22) enc w base spare held n _ _ g0
    have g1 := hg 1 _ rfl
    have s1 : xs[1]? = some (xs[1]'(by rw [hxl]; decide)) := List.getElem?_eq_getElem _
    rw [s1] at g1
    replace g1 : DataW.trod enc Try.prog w base spare held n 22 [c1] = _ := g1
    obtain ⟨y1, w1, K1⟩ := (opens_int Try.underlying22) enc w base spare held n _ _ g1
    exact ⟨⟨y0, y1⟩, trivial, ⟨[c0], [c1], rfl, K0, K1⟩⟩
theorem open28 {H : Type} {enc : TypeId × Value → H} {w : World} {base : Nat} {spare : Nat → Bool} {held : Bool} {fuel : Nat} {cs : List Value} {x : DataW H × List MemPlace} (h : DataW.trod enc Try.prog w base spare held fuel 28 cs = some x) :
    ∃ (a b : Int) (hs : List Int) (A : Option Addr) (c : Nat) (l : List S45), cs = G84 a b hs (.slice A l.length c) ∧ hs.length = 81 ∧ l.length ≤ c ∧ l.length ≤ maxLen ∧ Kd.C k45 w A l.length l := by
  obtain ⟨xs, n, _, _, hlen, hxl, hg⟩ := DataW.trod_struct Try.underlying28 h
  have hlen2 : cs.length = 84 := hlen.trans (by kernel_rfl)
  have hx4 : xs.length = 4 := hxl
  have g0 := hg 0 _ rfl
  have g1 := hg 1 _ rfl
  have g2 := hg 2 _ rfl
  have g3 := hg 3 _ rfl
  rw [List.getElem?_eq_getElem (by omega)] at g0 g1 g2 g3
  replace g0 : DataW.trod enc Try.prog w base spare held n 22 ((cs.drop 0).take (Try.prog.cellsOf 22)) = _ := g0
  replace g1 : DataW.trod enc Try.prog w base spare held n 22 ((cs.drop 1).take (Try.prog.cellsOf 22)) = _ := g1
  replace g2 : DataW.trod enc Try.prog w base spare held n 25 ((cs.drop 2).take (Try.prog.cellsOf 25)) = _ := g2
  replace g3 : DataW.trod enc Try.prog w base spare held n 26 ((cs.drop 83).take (Try.prog.cellsOf 26)) = _ := g3
  rw [show Try.prog.cellsOf 22 = 1 by kernel_rfl] at g0 g1
  rw [show Try.prog.cellsOf 25 = 81 by kernel_rfl] at g2
  rw [show Try.prog.cellsOf 26 = 1 by kernel_rfl] at g3
  obtain ⟨a, ea, _⟩ := DataW.trod_int Try.underlying22 g0
  obtain ⟨b, eb, _⟩ := DataW.trod_int Try.underlying22 g1
  obtain ⟨hs, hl, eh⟩ := open25 g2
  obtain ⟨l, wl, A, c, el, hc, hr⟩ := (opens_slice Try.underlying26 opens45 (by kernel_rfl)) enc w base spare held n _ _ g3
  refine ⟨a, b, hs, A, c, l, ?_, hl, hc, wl.1, hr⟩
  have e1 : cs = cs.take 1 ++ ((cs.drop 1).take 1 ++ ((cs.drop 2).take 81 ++ (cs.drop 83).take 1)) := by
    have q3 : (cs.drop 83).take 1 = cs.drop 83 := List.take_of_length_le (by rw [List.length_drop]; omega)
    have q2 : (cs.drop 2).take 81 ++ cs.drop 83 = cs.drop 2 := by
      rw [show cs.drop 83 = (cs.drop 2).drop 81 by rw [List.drop_drop]]
      exact List.take_append_drop _ _
    have q1 : (cs.drop 1).take 1 ++ cs.drop 2 = cs.drop 1 := by
      rw [show cs.drop 2 = (cs.drop 1).drop 1 by rw [List.drop_drop]]
      exact List.take_append_drop _ _
    rw [q3, q2, q1, List.take_append_drop]
  rw [e1, eb, eh, el]
  have ea' : cs.take 1 = [.int .i8 a] := by simpa using ea
  rw [ea']
  rfl
end Gr
end Go.Proofs.Ythbgebikdleblaa.Q
