/- Words of our own on a map in a block of its own, told by a function from keys to what stands there, if anything does ('v, ok := m[k]'). -/
import Derived.Test.YteinapckfhpdkaaDoorXQMapW
namespace Go.Mp
open Go.ChangeShapes Go.WideShapes Go.MapKept Go.ChangeMaps
open Go.Maps (Keyed)
section
variable {P : Program} {t k e : TypeId} {α β : Type} {encK : α → Value} {encV : β → Value} {G : α → Prop}
def Iso (encK : α → Value) (encV : β → Value) (G : α → Prop) (w : World) (b : Nat) (f : α → Option β) : Prop :=
 ∃ es clock, w.heap[b]? = some (.map es clock) ∧ Stamped es clock ∧ (∀ x ∈ es.toList, ∃ a s, G a ∧ x.key = encK a ∧ f a = some s ∧ x.val = encV s) ∧ ∀ a, G a → (∀ x ∈ es.toList, x.key ≠ encK a) → f a = none
theorem Iso.lt {w : World} {b : Nat} {f : α → Option β} (h : Iso encK encV G w b f) : b < w.heap.size := by
 obtain ⟨es, clock, hb, _⟩ := h
 exact (Array.getElem?_eq_some_iff.1 hb).1
theorem Iso.kept {w w' : World} {b : Nat} {f : α → Option β} (h : Iso encK encV G w b f) (hk : w'.heap[b]? = w.heap[b]?) : Iso encK encV G w' b f := by
 obtain ⟨es, clock, hb, r⟩ := h
 exact ⟨es, clock, hk.trans hb, r⟩
theorem Iso.of_empty {w : World} {b : Nat} (h : w.heap[b]? = some (.map #[] 0)) : Iso encK encV G w b (fun _ => none) := ⟨#[], 0, h, stamped_empty 0, by simp, fun _ _ _ => rfl⟩
structure LawO (P : Program) (t k e : TypeId) (encK : α → Value) (G : α → Prop) (zv : Value) : Prop where
 keyed : Keyed P k
 type : P.underlying t = some (.map k e)
 zero : ∀ w, (zeroValue e).run P w = .ok zv w
 inj : ∀ a b, encK a = encK b → a = b
 key : ∀ a, G a → ∃ l, keyOf P k (encK a) = some l
variable {zv : Value} (L : LawO P t k e encK G zv)
include L
theorem Iso.cases {w : World} {f : α → Option β} {a : α} (ha : G a) (es : List MapEntry) (hes : ∀ x ∈ es, ∃ a s, G a ∧ x.key = encK a ∧ f a = some s ∧ x.val = encV s) :
  ((Instr.findKey k (encK a) es).run P w = .ok none w ∧ ∀ x ∈ es, x.key ≠ encK a) ∨ ∃ j x s, (Instr.findKey k (encK a) es).run P w = .ok (some (j, encV s)) w ∧ es[j]? = some x ∧ x.key = encK a ∧ f a = some s ∧ x.val = encV s := by
 obtain ⟨l, hl⟩ := L.key a ha
 rcases L.keyed.find w hl es (fun x hx => by obtain ⟨a', s, h1, h2, _⟩ := hes x hx; rw [h2]; exact L.key a' h1) with h | ⟨j, x, h1, h2, h3⟩
 · exact .inl h
 ·
  obtain ⟨a', s, _, e1, e2, e3⟩ := hes x (List.mem_of_getElem? h2)
  have : a' = a := L.inj _ _ (e1.symm.trans h3)
  subst this
  exact .inr ⟨j, x, s, by rw [← e3]; exact h1, h2, h3, e2, e3⟩
theorem Iso.look {w : World} {b : Nat} {f : α → Option β} (h : Iso encK encV G w b f) {a : α} (ha : G a) :
  (Instr.lookup t (.map (some b)) (encK a) true).run P w = .ok (.tuple #[(match f a with | some s => encV s | none => zv), .bool (f a).isSome]) w := by
 obtain ⟨es, clock, hb, hs, hes, hz⟩ := h
 obtain ⟨l, hl⟩ := L.key a ha
 rcases Iso.cases L (w := w) (f := f) ha es.toList hes with ⟨h1, h2⟩ | ⟨j, x, s, h1, h2, h3, h4, h5⟩
 ·
  rw [hz a ha h2]
  simp [Instr.lookup, run_underlying L.type, MapKept.run_getObj_map hb, L.keyed.check w _ hl, h1, L.zero, Result.andThen]
 ·
  rw [h4]
  simp [Instr.lookup, run_underlying L.type, MapKept.run_getObj_map hb, L.keyed.check w _ hl, h1, Result.andThen]
variable [DecidableEq α]
theorem Iso.update {w : World} {b : Nat} {f : α → Option β} (h : Iso encK encV G w b f) {a : α} (ha : G a) (v : β) :
  ∃ W2, (Instr.mapUpdate t (.map (some b)) (encK a) (encV v)).run P w = .ok () W2 ∧ Iso encK encV G W2 b (upd f a (some v)) ∧ w.grownBy W2 (some b) := by
 obtain ⟨es, clock, hb, hs, hes, hz⟩ := h
 obtain ⟨l, hl⟩ := L.key a ha
 rcases Iso.cases L (w := w) (f := f) ha es.toList hes with ⟨h1, h2⟩ | ⟨j, x, s, h1, h2, h3, h4, h5⟩
 ·
  refine ⟨setBlock w b (.map (es.push ⟨encK a, encV v, clock⟩) (clock + 1)), ?_, ⟨_, _, heap_setBlock_same hb _, stamped_push (val := encV v) hs h2, fun y hy => ?_, fun a' ha' hne => ?_⟩, grown_setBlock _ hb⟩
  · simp [Instr.mapUpdate, run_underlying L.type, MapKept.run_getObj_map hb, L.keyed.check w false hl, h1, MapKept.run_setObj_map _ hb, Result.andThen, setBlock]
  ·
   simp only [Array.toList_push, List.mem_append, List.mem_singleton] at hy
   rcases hy with hy | rfl
   ·
    obtain ⟨a', s, g', e1, e2, e3⟩ := hes y hy
    refine ⟨a', s, g', e1, ?_, e3⟩
    unfold upd
    rw [if_neg (fun e => h2 y hy (by rw [e1, e])), e2]
   · exact ⟨a, v, ha, rfl, by unfold upd; rw [if_pos rfl], rfl⟩
  ·
   unfold upd
   have hne2 : a' ≠ a := fun e => hne ⟨encK a, encV v, clock⟩ (by simp) (by rw [e])
   rw [if_neg hne2]
   exact hz a' ha' fun y hy => hne y (by simp only [Array.toList_push, List.mem_append]; exact .inl hy)
 ·
  have hj : es[j]? = some x := by simpa using h2
  have hmod : es.modify j (fun e' => { e' with key := encK a, val := encV v }) = es.modify j (fun e => { e with val := encV v }) := by
   apply Array.ext'
   rw [Array.toList_modify, Array.toList_modify, modify_eq_set _ _ _ _ h2, modify_eq_set _ _ _ _ h2, ← h3]
  have hnd := hs.2.2
  have hkeys : ∀ y ∈ es.toList, y.key = encK a → y = x := by
   intro y hy e
   obtain ⟨i, hi, rfl⟩ := List.getElem_of_mem hy
   have hjl := (List.getElem?_eq_some_iff.1 h2).1
   have hjx := (List.getElem?_eq_some_iff.1 h2).2
   have : (es.toList.map (·.key))[i]'(by simpa using hi) = (es.toList.map (·.key))[j]'(by simpa using hjl) := by
    rw [List.getElem_map, List.getElem_map, e, hjx, h3]
   have := nodup_inj hnd _ _ this
   subst this
   exact hjx
  refine ⟨setBlock w b (.map (es.modify j (fun e => { e with val := encV v })) clock), ?_, ⟨_, _, heap_setBlock_same hb _, stamped_modify hs _ _ (fun _ _ => rfl) (fun _ _ _ => rfl), fun y hy => ?_, fun a' ha' hne => ?_⟩, grown_setBlock _ hb⟩
  ·
   rw [← hmod]
   simp [Instr.mapUpdate, run_underlying L.type, MapKept.run_getObj_map hb, L.keyed.check w false hl, h1, hj, h3, L.keyed.stays w hl, MapKept.run_setObj_map _ hb, Result.andThen, setBlock]
  ·
   rw [Array.toList_modify, modify_eq_set _ _ _ _ h2] at hy
   obtain ⟨i, hi, hyi⟩ := List.getElem_of_mem hy
   rw [List.getElem_set] at hyi
   by_cases e : j = i
   ·
    rw [if_pos e] at hyi
    subst hyi
    exact ⟨a, v, ha, h3, by unfold upd; rw [if_pos rfl], rfl⟩
   ·
    rw [if_neg e] at hyi
    have hi' : i < es.toList.length := by simpa using hi
    have hym : y ∈ es.toList := by rw [← hyi]; exact List.getElem_mem hi'
    obtain ⟨a', s', g', e1, e2, e4⟩ := hes y hym
    refine ⟨a', s', g', e1, ?_, e4⟩
    unfold upd
    rw [if_neg ?_, e2]
    intro e3
    have hyx := hkeys y hym (by rw [e1, e3])
    have hjl := (List.getElem?_eq_some_iff.1 h2).1
    have hjx := (List.getElem?_eq_some_iff.1 h2).2
    have hb2 : (es.toList.map (·.key))[i]'(by simpa using hi') = (es.toList.map (·.key))[j]'(by simpa using hjl) := by
     rw [List.getElem_map, List.getElem_map, hyi, hjx, hyx]
    exact e (nodup_inj hnd _ _ hb2).symm
  ·
   have hne2 : a' ≠ a := by
    rintro rfl
    refine hne { x with val := encV v } ?_ h3
    rw [Array.toList_modify, modify_eq_set _ _ _ _ h2]
    exact List.mem_set (List.getElem?_eq_some_iff.1 h2).1 _
   unfold upd
   rw [if_neg hne2]
   refine hz a' ha' fun y hy e => ?_
   by_cases e2 : y = x
   ·
    rw [e2, h3] at e
    exact hne2 (L.inj _ _ e).symm
   ·
    refine hne y ?_ e
    rw [Array.toList_modify, modify_eq_set _ _ _ _ h2]
    obtain ⟨i, hi, rfl⟩ := List.getElem_of_mem hy
    have hij : j ≠ i := by
     rintro rfl
     exact e2 (List.getElem?_eq_some_iff.1 h2).2
    rw [List.mem_iff_getElem]
    exact ⟨i, by simpa using hi, by rw [List.getElem_set, if_neg hij]⟩
end
end Go.Mp
