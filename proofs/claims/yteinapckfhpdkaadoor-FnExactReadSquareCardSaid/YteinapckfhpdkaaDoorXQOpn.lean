-- By a program of this session's, out of the translation (with the kit's print). Lean checks it.
import Derived.Test.YteinapckfhpdkaaDoorXQ0
import Derived.Deep.Slices
import Derived.ChangeSlices
import Derived.ChangeArms
import Derived.DataReads
namespace Go.Proofs.YteinapckfhpdkaaDoor.Q
open Go.RowKit Go.Proofs.YteinapckfhpdkaaDoorW.PrintWords Go.Proofs.YteinapckfhpdkaaDoorW.PrintLast Go.Proofs.YteinapckfhpdkaaDoorW.PrintMore
attribute [local go_sem] max2_int min2_int max_two min_two max_three min_three max_four min_four
set_option linter.unusedVariables false
set_option linter.unusedSimpArgs false
def Opens {α : Type} (P : Program) (t : Nat) (d : Kd α) (wf : α → Prop) : Prop :=
 ∀ {H : Type} (enc : TypeId × Value → H) (w : World) (base : Nat) (spare : Nat → Bool) (held : Bool) (fuel : Nat) (cs : List Value) (x : DataW H × List MemPlace),
  DataW.trod enc P w base spare held fuel t cs = some x → ∃ y, wf y ∧ d.K w y cs
theorem opens_int {P : Program} {t : Nat} {k : IntKind} (ht : P.underlying t = some (.int k)) : Opens P t (Kd.int k) (fun n => (Lit.int k n).wf = true) := by
 intro H enc w base spare held fuel cs x h
 obtain ⟨n, rfl, rfl, hw⟩ := DataW.trod_int ht h
 exact ⟨n, hw, rfl⟩
theorem opens_string {P : Program} {t : Nat} (ht : P.underlying t = some .string) : Opens P t Kd.string (fun s => s.size ≤ maxLen) := by
 intro H enc w base spare held fuel cs x h
 obtain ⟨n, rfl, rfl, hw⟩ := DataW.trod_string ht h
 exact ⟨n, hw, rfl⟩
theorem list_of {α : Type} {Q : Nat → α → Prop} : ∀ n, (∀ i, i < n → ∃ y, Q i y) → ∃ ys : List α, ys.length = n ∧ ∀ i y, ys[i]? = some y → Q i y
 | 0, _ => ⟨[], rfl, fun i y h => by simp at h⟩
 | n + 1, h => by
  obtain ⟨ys, hl, hq⟩ := list_of n (fun i hi => h i (by omega))
  obtain ⟨y, hy⟩ := h n (by omega)
  refine ⟨ys ++ [y], by simp [hl], fun i z hz => ?_⟩
  rcases Nat.lt_or_ge i n with hi | hi
  ·
   rw [List.getElem?_append_left (by omega)] at hz
   exact hq i z hz
  ·
   have hlt := (List.getElem?_eq_some_iff.1 hz).1
   rw [List.length_append, List.length_singleton, hl] at hlt
   have e : i = n := by omega
   subst e
   rw [List.getElem?_append_right (by omega), hl, Nat.sub_self] at hz
   obtain rfl : y = z := by simpa using hz
   exact hy
theorem opens_slice {α : Type} {P : Program} {t e : Nat} {d : Kd α} {wf : α → Prop} (ht : P.underlying t = some (.slice e)) (he : Opens P e d wf) (hC : P.cellsOf e = d.sz) :
  Opens P t (Kd.slice e d) (fun l => l.length ≤ maxLen ∧ ∀ x ∈ l, wf x) := by
 intro H enc w base spare held fuel cs x h
 rcases Go.Deep.open_slice ht h with ⟨rfl, rfl⟩ | ⟨a, len, cap, m, n, D, Pl, rfl, hb, hl, hm, hmm, rfl, hi⟩
 · exact ⟨[], ⟨by simp, by simp⟩, none, 0, rfl, Nat.le_refl _, rfl, by simp, fun h => absurd h (by simp)⟩
 ·
  have hlm : len ≤ m := by
   rw [hmm]
   split <;> omega
  obtain ⟨ys, hyl, hq⟩ := list_of (Q := fun i y => wf y ∧ ∃ c, w.cells? base (a.add (i * P.cellsOf e)) (P.cellsOf e) = some c ∧ d.K w y c) len (fun i hlt => by
   obtain ⟨c, hc, ht'⟩ := hi i (by omega)
   obtain ⟨y, hwy, hK⟩ := he enc w base spare held n c _ ht'
   exact ⟨y, hwy, c, hc, hK⟩)
  refine ⟨ys, ⟨by omega, fun y hy => ?_⟩, some a, cap, by rw [hyl], by omega, ?_⟩
  ·
   obtain ⟨i, hi', hget⟩ := List.getElem_of_mem hy
   exact (hq i y (by rw [List.getElem?_eq_getElem hi', hget])).1
  ·
   refine ⟨rfl, by simp only [maxLen] at hm; omega, fun _ => ⟨a, rfl, fun j p hj => ?_⟩⟩
   obtain ⟨_, c, hc, hK⟩ := hq j p hj
   obtain ⟨_, hcl, hat⟩ := World.cells?_some hc
   refine ⟨c, by rw [hcl, hC], hK, fun i u hu => ?_⟩
   have hlt := (List.getElem?_eq_some_iff.1 hu).1
   have h1 := hat i (by omega)
   rw [Go.Deep.add_add, hC] at h1
   rw [h1, hu]
end Go.Proofs.YteinapckfhpdkaaDoor.Q
