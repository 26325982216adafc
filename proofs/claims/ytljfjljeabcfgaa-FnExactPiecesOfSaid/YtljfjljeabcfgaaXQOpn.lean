-- By a program of this session's, out of the translation (with the kit's print). Lean checks it.
import Derived.Test.YtljfjljeabcfgaaXQ0
import Derived.Deep.Slices
import Derived.ChangeSlices
import Derived.ChangeArms
import Derived.DataReads
namespace Go.Proofs.Ytljfjljeabcfgaa.Q
open Go.RowKit Go.Proofs.YtljfjljeabcfgaaW.PrintWords Go.Proofs.YtljfjljeabcfgaaW.PrintLast Go.Proofs.YtljfjljeabcfgaaW.PrintMore
attribute [local go_sem] max2_int min2_int max_two min_two max_three min_three max_four min_four
set_option linter.unusedVariables false
set_option linter.unusedSimpArgs false
def Opens {α : Type} (P : Program) (t : Nat) (d : Kd α) (wf : α → Prop) : Prop :=
 ∀ {H : Type} (enc : TypeId × Value → H) (w : World) (base : Nat) (spare : Nat → Bool) (held : Bool) (fuel : Nat) (cs : List Value) (x : DataW H × List MemPlace),
  DataW.trod enc P w base spare held fuel t cs = some x → ∃ y, wf y ∧ d.K w y cs
theorem opens_int {P : Program} {t : Nat} {k : IntKind} (ht : P.underlying t = some (.int k)) : Opens P t (Kd.int k) (fun n => (Lit.int k n).wf = true) := by
 intro H enc w base spare held fuel cs x h
 obtain ⟨n, rfl, rfl, hw⟩ := DataW.trod_int ht h
 exact ⟨n, hw, rfl⟩
theorem opens_string {P : Program} {t : Nat} (ht : P.underlying t = some .string) : Opens P t Kd.string (fun s => s.size ≤ maxLen) := by
 intro H enc w base spare held fuel cs x h
 obtain ⟨n, rfl, rfl, hw⟩ := DataW.trod_string ht h
 exact ⟨n, hw, rfl⟩
theorem list_of {α : Type} {Q : Nat → α → Prop} : ∀ n, (∀ i, i < n → ∃ y, Q i y) → ∃ ys : List α, ys.length = n ∧ ∀ i y, ys[i]? = some y → Q i y
 | 0, _ => ⟨[], rfl, fun i y h => by simp at h⟩
 | n + 1, h => by
  obtain ⟨ys, hl, hq⟩ := list_of n (fun i hi => h i (by omega))
  obtain ⟨y, hy⟩ := h n (by omega)
  refine ⟨ys ++ [y], by simp [hl], fun i z hz => ?_⟩
  rcases Nat.lt_or_ge i n with hi | hi
  ·
   rw [List.getElem?_append_left (by omega)] at hz
   exact hq i z hz
  ·
   have hlt := (List.getElem?_eq_some_iff.1 hz).1
   rw [List.length_append, List.length_singleton, hl] at hlt
   have e : i = n := by omega
   subst e
   rw [List.getElem?_append_right (by omega), hl, Nat.sub_self] at hz
   obtain rfl : y = z := by simpa using hz
   exact hy
theorem opens_slice {α : Type} {P : Program} {t e : Nat} {d : Kd α} {wf : α → Prop} (ht : P.underlying t = some (.slice e)) (he : Opens P e d wf) (hC : P.cellsOf e = d.sz) :
  Opens P t (Kd.slice e d) (fun l => l.length ≤ maxLen ∧ ∀ x ∈ l, wf x) := by
 intro H enc w base spare held fuel cs x h
 rcases Go.Deep.open_slice ht h with ⟨rfl, rfl⟩ | ⟨a, len, cap, m, n, D, Pl, rfl, hb, hl, hm, hmm, rfl, hi⟩
 · exact ⟨[], ⟨by simp, by simp⟩, none, 0, rfl, Nat.le_refl _, rfl, by simp, fun h => absurd h (by simp)⟩
 ·
  have hlm : len ≤ m := by
   rw [hmm]
   split <;> omega
  obtain ⟨ys, hyl, hq⟩ := list_of (Q := fun i y => wf y ∧ ∃ c, w.cells? base (a.add (i * P.cellsOf e)) (P.cellsOf e) = some c ∧ d.K w y c) len (fun i hlt => by
   obtain ⟨c, hc, ht'⟩ := hi i (by omega)
   obtain ⟨y, hwy, hK⟩ := he enc w base spare held n c _ ht'
   exact ⟨y, hwy, c, hc, hK⟩)
  refine ⟨ys, ⟨by omega, fun y hy => ?_⟩, some a, cap, by rw [hyl], by omega, ?_⟩
  ·
   obtain ⟨i, hi', hget⟩ := List.getElem_of_mem hy
   exact (hq i y (by rw [List.getElem?_eq_getElem hi', hget])).1
  ·
   refine ⟨rfl, by simp only [maxLen] at hm; omega, fun _ => ⟨a, rfl, fun j p hj => ?_⟩⟩
   obtain ⟨_, c, hc, hK⟩ := hq j p hj
   obtain ⟨_, hcl, hat⟩ := World.cells?_some hc
   refine ⟨c, by rw [hcl, hC], hK, fun i u hu => ?_⟩
   have hlt := (List.getElem?_eq_some_iff.1 hu).1
   have h1 := hat i (by omega)
   rw [Go.Deep.add_add, hC] at h1
   rw [h1, hu]
def wf64 (x : S64) : Prop := (Lit.int .i8 x.f0).wf = true ∧ (Lit.int .i8 x.f1).wf = true ∧ (Lit.int .i8 x.f2).wf = true ∧ (Lit.int .i8 x.f3).wf = true
set_option maxRecDepth 100000 in
theorem opens64 : Opens Try.prog 64 k64 wf64 := by
 intro H enc w base spare held fuel cs x h
 obtain ⟨xs, n, _, _, hlen, hxl, hg⟩ := DataW.trod_struct Try.underlying64 h
 have hlen2 : cs.length = 4 := hlen.trans (by kernel_rfl)
 match cs, hlen2 with
 | [c0, c1, c2, c3], _ =>
  have g0 := hg 0 _ rfl
  have s0 : xs[0]? = some (xs[0]'(by rw [hxl]; decide)) := List.getElem?_eq_getElem _
  rw [s0] at g0
  replace g0 : DataW.trod enc Try.prog w base spare held n 22 [c0] = _ := g0
  obtain ⟨y0, w0, K0⟩ := (opens_int Try.underlying22) enc w base spare held n _ _ g0
  have g1 := hg 1 _ rfl
  have s1 : xs[1]? = some (xs[1]'(by rw [hxl]; decide)) := List.getElem?_eq_getElem _
  rw [s1] at g1
  replace g1 : DataW.trod enc Try.prog w base spare held n 22 [c1] = _ := g1
  obtain ⟨y1, w1, K1⟩ := (opens_int Try.underlying22) enc w base spare held n _ _ g1
  have g2 := hg 2 _ rfl
  have s2 : xs[2]? = some (xs[2]'(by rw [hxl]; decide)) := List.getElem?_eq_getElem _
  rw [s2] at g2
  replace g2 : DataW.trod enc Try.prog w base spare held n 22 [c2] = _ := g2
  obtain ⟨y2, w2, K2⟩ := (opens_int Try.underlying22) enc w base spare held n _ _ g2
  have g3 := hg 3 _ rfl
  have s3 : xs[3]? = some (xs[3]'(by rw [hxl]; decide)) := List.getElem?_eq_getElem _
  rw [s3] at g3
  replace g3 : DataW.trod enc Try.prog w base spare held n 22 [c3] = _ := g3
  obtain ⟨y3, w3, K3⟩ := (opens_int Try.underlying22) enc w base spare held n _ _ g3
  exact ⟨⟨y0, y1, y2, y3⟩, ⟨w0, w1, w2, w3⟩, ⟨[c0], [c1, c2, c3], rfl, K0, ⟨[c1], [c2, c3], rfl, K1, ⟨[c2], [c3], rfl, K2, K3⟩⟩⟩⟩
def wf25 (x : S25) : Prop := (Lit.int .i8 x.f0).wf = true ∧ (Lit.int .i8 x.f1).wf = true ∧ (x.f2.length ≤ maxLen ∧ ∀ z_ ∈ x.f2, wf64 z_)
set_option maxRecDepth 100000 in
theorem opens25 : Opens Try.prog 25 k25 wf25 := by
 intro H enc w base spare held fuel cs x h
 obtain ⟨xs, n, _, _, hlen, hxl, hg⟩ := DataW.trod_struct Try.underlying25 h
 have hlen2 : cs.length = 3 := hlen.trans (by kernel_rfl)
 match cs, hlen2 with
 | [c0, c1, c2], _ =>
  have g0 := hg 0 _ rfl
  have s0 : xs[0]? = some (xs[0]'(by rw [hxl]; decide)) := List.getElem?_eq_getElem _
  rw [s0] at g0
  replace g0 : DataW.trod enc Try.prog w base spare held n 22 [c0] = _ := g0
  obtain ⟨y0, w0, K0⟩ := (opens_int Try.underlying22) enc w base spare held n _ _ g0
  have g1 := hg 1 _ rfl
  have s1 : xs[1]? = some (xs[1]'(by rw [hxl]; decide)) := List.getElem?_eq_getElem _
  rw [s1] at g1
  replace g1 : DataW.trod enc Try.prog w base spare held n 22 [c1] = _ := g1
  obtain ⟨y1, w1, K1⟩ := (opens_int Try.underlying22) enc w base spare held n _ _ g1
  have g2 := hg 2 _ rfl
  have s2 : xs[2]? = some (xs[2]'(by rw [hxl]; decide)) := List.getElem?_eq_getElem _
  rw [s2] at g2
  replace g2 : DataW.trod enc Try.prog w base spare held n 23 [c2] = _ := g2
  obtain ⟨y2, w2, K2⟩ := (opens_slice Try.underlying23 opens64 (by kernel_rfl)) enc w base spare held n _ _ g2
  exact ⟨⟨y0, y1, y2⟩, ⟨w0, w1, w2⟩, ⟨[c0], [c1, c2], rfl, K0, ⟨[c1], [c2], rfl, K1, K2⟩⟩⟩
end Go.Proofs.Ytljfjljeabcfgaa.Q
