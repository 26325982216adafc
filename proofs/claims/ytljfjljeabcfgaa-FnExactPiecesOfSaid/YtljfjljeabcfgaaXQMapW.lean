/- Words of our own on a map in a block of its own, told by a function from keys to elements. -/
import Derived.Maps.Own
import Derived.Maps.OwnOps
import Derived.WideKeyEntry
import Derived.Deep.RegionLaw
namespace Go.Mp
theorem nodup_inj {α : Type} {l : List α} (h : l.Nodup) {i j : Nat} (hi : i < l.length) (hj : j < l.length) (e : l[i] = l[j]) : i = j := by
 rcases Nat.lt_trichotomy i j with h1 | h1 | h1
 · exact absurd e ((List.pairwise_iff_getElem.1 h) i j hi hj h1)
 · exact h1
 · exact absurd e.symm ((List.pairwise_iff_getElem.1 h) j i hj hi h1)
open Go.ChangeShapes Go.WideShapes Go.MapKept Go.ChangeMaps
open Go.Maps (Keyed)
section
variable {P : Program} {t k e : TypeId} {α β : Type} {encK : α → Value} {encV : β → Value} {G : α → Prop} {z : β}
def Is (encK : α → Value) (encV : β → Value) (G : α → Prop) (z : β) (w : World) (b n : Nat) (f : α → β) : Prop :=
 ∃ es clock, w.heap[b]? = some (.map es clock) ∧ Stamped es clock ∧ es.size ≤ n ∧ (∀ x ∈ es.toList, ∃ a, G a ∧ x.key = encK a ∧ x.val = encV (f a)) ∧ ∀ a, G a → (∀ x ∈ es.toList, x.key ≠ encK a) → f a = z
theorem Is.lt {w : World} {b n : Nat} {f : α → β} (h : Is encK encV G z w b n f) : b < w.heap.size := by
 obtain ⟨es, clock, hb, _⟩ := h
 exact (Array.getElem?_eq_some_iff.1 hb).1
theorem Is.kept {w w' : World} {b n : Nat} {f : α → β} (h : Is encK encV G z w b n f) (hk : w'.heap[b]? = w.heap[b]?) : Is encK encV G z w' b n f := by
 obtain ⟨es, clock, hb, r⟩ := h
 exact ⟨es, clock, hk.trans hb, r⟩
theorem Is.made (encK : α → Value) (encV : β → Value) (G : α → Prop) (z : β) (w : World) : Is encK encV G z (w.alloc (.map #[] 0)) w.heap.size 0 (fun _ => z) :=
 ⟨#[], 0, (MapKept.heap_alloc w _).1, stamped_empty 0, Nat.le_refl _, by simp, fun _ _ _ => rfl⟩
structure Law (P : Program) (t k e : TypeId) (encK : α → Value) (encV : β → Value) (G : α → Prop) (z : β) : Prop where
 keyed : Keyed P k
 type : P.underlying t = some (.map k e)
 zero : ∀ w, (zeroValue e).run P w = .ok (encV z) w
 inj : ∀ a b, encK a = encK b → a = b
 key : ∀ a, G a → ∃ l, keyOf P k (encK a) = some l
variable (L : Law P t k e encK encV G z)
include L
theorem Is.cases {w : World} {f : α → β} {a : α} (ha : G a) (es : List MapEntry) (hes : ∀ x ∈ es, ∃ a, G a ∧ x.key = encK a ∧ x.val = encV (f a)) :
  ((Instr.findKey k (encK a) es).run P w = .ok none w ∧ ∀ x ∈ es, x.key ≠ encK a) ∨ ∃ j x, (Instr.findKey k (encK a) es).run P w = .ok (some (j, encV (f a))) w ∧ es[j]? = some x ∧ x.key = encK a ∧ x.val = encV (f a) := by
 obtain ⟨l, hl⟩ := L.key a ha
 rcases L.keyed.find w hl es (fun x hx => by obtain ⟨a', h1, h2, _⟩ := hes x hx; rw [h2]; exact L.key a' h1) with h | ⟨j, x, h1, h2, h3⟩
 · exact .inl h
 ·
  obtain ⟨a', _, e1, e2⟩ := hes x (List.mem_of_getElem? h2)
  have : a' = a := L.inj _ _ (e1.symm.trans h3)
  subst this
  exact .inr ⟨j, x, by rw [← e2]; exact h1, h2, h3, e2⟩
theorem Is.look {w : World} {b n : Nat} {f : α → β} (h : Is encK encV G z w b n f) {a : α} (ha : G a) : (Instr.lookup t (.map (some b)) (encK a) false).run P w = .ok (encV (f a)) w := by
 obtain ⟨es, clock, hb, hs, hn, hes, hz⟩ := h
 obtain ⟨l, hl⟩ := L.key a ha
 rcases Is.cases L (w := w) (f := f) ha es.toList hes with ⟨h1, h2⟩ | ⟨j, x, h1, h2, h3, h4⟩
 ·
  rw [hz a ha h2]
  simp [Instr.lookup, run_underlying L.type, MapKept.run_getObj_map hb, L.keyed.check w _ hl, h1, L.zero, Result.andThen]
 · simp [Instr.lookup, run_underlying L.type, MapKept.run_getObj_map hb, L.keyed.check w _ hl, h1, Result.andThen]
variable [DecidableEq α]
omit L in
def upd (f : α → β) (a : α) (v : β) : α → β := fun x => if x = a then v else f x
omit L [DecidableEq α] in
theorem grown_setBlock {w : World} {b : Nat} {es : Array MapEntry} {clock : Nat} (o' : Obj) (hb : w.heap[b]? = some (.map es clock)) : w.grownBy (setBlock w b o') (some b) :=
 ⟨rfl, rfl, rfl, by simp [setBlock], fun i _ hi => heap_setBlock_other hb _ (fun e => hi (by rw [e]))⟩
omit L in
theorem Is.pushed {W : World} {b n : Nat} {f : α → β} {es : Array MapEntry} {clock : Nat} {a : α} (ha : G a) (v : β) (hs : Stamped es clock) (hn : es.size ≤ n)
  (hes : ∀ x ∈ es.toList, ∃ a, G a ∧ x.key = encK a ∧ x.val = encV (f a)) (hz : ∀ a, G a → (∀ x ∈ es.toList, x.key ≠ encK a) → f a = z) (h2 : ∀ x ∈ es.toList, x.key ≠ encK a) (hW : W.heap[b]? = some (.map (es.push ⟨encK a, encV v, clock⟩) (clock + 1))) :
  Is encK encV G z W b (n + 1) (upd f a v) := by
 refine ⟨_, _, hW, stamped_push (val := encV v) hs h2, by simp; omega, fun y hy => ?_, fun a' ha' hne => ?_⟩
 ·
  simp only [Array.toList_push, List.mem_append, List.mem_singleton] at hy
  rcases hy with hy | rfl
  ·
   obtain ⟨a', g', e1, e2⟩ := hes y hy
   refine ⟨a', g', e1, ?_⟩
   unfold upd
   rw [if_neg (fun e => h2 y hy (by rw [e1, e])), e2]
  · exact ⟨a, ha, rfl, by unfold upd; rw [if_pos rfl]⟩
 ·
  unfold upd
  have hne2 : a' ≠ a := fun e => hne ⟨encK a, encV v, clock⟩ (by simp) (by rw [e])
  rw [if_neg hne2]
  exact hz a' ha' fun y hy => hne y (by simp only [Array.toList_push, List.mem_append]; exact .inl hy)
theorem Is.changed {W : World} {b n : Nat} {f : α → β} {es : Array MapEntry} {clock j : Nat} {x : MapEntry} {a : α} (ha : G a) (v : β) (hs : Stamped es clock) (hn : es.size ≤ n)
  (hes : ∀ x ∈ es.toList, ∃ a, G a ∧ x.key = encK a ∧ x.val = encV (f a)) (hz : ∀ a, G a → (∀ x ∈ es.toList, x.key ≠ encK a) → f a = z) (h2 : es.toList[j]? = some x) (h3 : x.key = encK a) (hW : W.heap[b]? = some (.map (es.modify j (fun e => { e with val := encV v })) clock)) :
  Is encK encV G z W b (n + 1) (upd f a v) := by
 have s2 := hs.2.1
 have hkeys : ∀ y ∈ es.toList, y.key = encK a → y = x := by
  intro y hy e
  obtain ⟨i, hi, rfl⟩ := List.getElem_of_mem hy
  have hjl := (List.getElem?_eq_some_iff.1 h2).1
  have hjx := (List.getElem?_eq_some_iff.1 h2).2
  have hnd := hs.2.2
  have : (es.toList.map (·.key))[i]'(by simpa using hi) = (es.toList.map (·.key))[j]'(by simpa using hjl) := by
   rw [List.getElem_map, List.getElem_map, e, hjx, h3]
  have := nodup_inj hnd _ _ this
  subst this
  exact hjx
 refine ⟨_, _, hW, stamped_modify hs _ _ (fun _ _ => rfl) (fun _ _ _ => rfl), by simp; omega, fun y hy => ?_, fun a' ha' hne => ?_⟩
 ·
  rw [Array.toList_modify, modify_eq_set _ _ _ _ h2] at hy
  obtain ⟨i, hi, hyi⟩ := List.getElem_of_mem hy
  rw [List.getElem_set] at hyi
  by_cases e : j = i
  ·
   rw [if_pos e] at hyi
   subst hyi
   exact ⟨a, ha, h3, by unfold upd; rw [if_pos rfl]⟩
  ·
   rw [if_neg e] at hyi
   have hi' : i < es.toList.length := by simpa using hi
   have hym : y ∈ es.toList := by rw [← hyi]; exact List.getElem_mem hi'
   obtain ⟨a', g', e1, e2⟩ := hes y hym
   refine ⟨a', g', e1, ?_⟩
   unfold upd
   rw [if_neg ?_, e2]
   intro e3
   have hyx := hkeys y hym (by rw [e1, e3])
   have hjl := (List.getElem?_eq_some_iff.1 h2).1
   have hjx := (List.getElem?_eq_some_iff.1 h2).2
   have hb2 : (es.toList.map (·.born))[i]'(by simpa using hi') = (es.toList.map (·.born))[j]'(by simpa using hjl) := by
    rw [List.getElem_map, List.getElem_map, hyi, hjx, hyx]
   exact e (nodup_inj s2 _ _ hb2).symm
 ·
  have hne2 : a' ≠ a := by
   rintro rfl
   refine hne { x with val := encV v } ?_ h3
   rw [Array.toList_modify, modify_eq_set _ _ _ _ h2]
   exact List.mem_set (List.getElem?_eq_some_iff.1 h2).1 _
  unfold upd
  rw [if_neg hne2]
  refine hz a' ha' fun y hy e => ?_
  by_cases e2 : y = x
  ·
   rw [e2, h3] at e
   exact hne2 (L.inj _ _ e).symm
  ·
   refine hne y ?_ e
   rw [Array.toList_modify, modify_eq_set _ _ _ _ h2]
   obtain ⟨i, hi, rfl⟩ := List.getElem_of_mem hy
   have hij : j ≠ i := by
    rintro rfl
    exact e2 (List.getElem?_eq_some_iff.1 h2).2
   rw [List.mem_iff_getElem]
   exact ⟨i, by simpa using hi, by rw [List.getElem_set, if_neg hij]⟩
theorem Is.entry {w : World} {b n : Nat} {f : α → β} (h : Is encK encV G z w b n f) {a : α} (ha : G a) :
  ∃ W1 st, (Instr.mapEntry t (.map (some b)) (encK a)).run P w = .ok (.tuple #[encV (f a), goInt st]) W1 ∧ Is encK encV G z W1 b (n + 1) f ∧ w.grownBy W1 (some b) ∧
   ∀ v, ∃ W2, (Instr.entryStore t (.map (some b)) (goInt st) (encV v)).run P W1 = .ok () W2 ∧ Is encK encV G z W2 b (n + 1) (upd f a v) ∧ w.grownBy W2 (some b) := by
 obtain ⟨es, clock, hb, hs, hn, hes, hz⟩ := h
 obtain ⟨l, hl⟩ := L.key a ha
 have s1 := hs.1
 have s2 := hs.2.1
 have hgrow : ∀ (W1 : World) (es1 : Array MapEntry) (c1 : Nat) (o : Obj), w.grownBy W1 (some b) → W1.heap[b]? = some (.map es1 c1) → w.grownBy (setBlock W1 b o) (some b) := fun W1 es1 c1 o hg hb1 =>
  ⟨hg.os, hg.tape, hg.output, by simpa [setBlock] using hg.size, fun i hi hne => (heap_setBlock_other hb1 _ (fun e => hne (by rw [e]))).trans (hg.block i hi hne)⟩
 rcases Is.cases L (w := w) (f := f) ha es.toList hes with ⟨h1, h2⟩ | ⟨j, x, h1, h2, h3, h4⟩
 ·
  have hfa := hz a ha h2
  have hb1 := heap_setBlock_same hb (.map (es.push ⟨encK a, encV z, clock⟩) (clock + 1))
  have hst1 := stamped_push (val := encV z) hs h2
  have hA : (Instr.mapEntry t (.map (some b)) (encK a)).run P w = .ok (.tuple #[encV (f a), goInt clock]) (setBlock w b (.map (es.push ⟨encK a, encV z, clock⟩) (clock + 1))) := by
   rw [hfa]
   simp [Instr.mapEntry, run_underlying L.type, MapKept.run_getObj_map hb, L.keyed.check w false hl, h1, L.zero, MapKept.run_setObj_map _ hb, Result.andThen, setBlock]
  have hG := grown_setBlock (.map (es.push ⟨encK a, encV z, clock⟩) (clock + 1)) hb
  generalize setBlock w b (.map (es.push ⟨encK a, encV z, clock⟩) (clock + 1)) = W1 at *
  refine ⟨W1, clock, hA, ⟨_, _, hb1, hst1, by simp; omega, fun y hy => ?_, fun a' ha' hne => ?_⟩, hG, fun v => ?_⟩
  ·
   simp only [Array.toList_push, List.mem_append, List.mem_singleton] at hy
   rcases hy with hy | rfl
   · exact hes y hy
   · exact ⟨a, ha, rfl, by rw [hfa]⟩
  · exact hz a' ha' fun y hy => hne y (by simp only [Array.toList_push, List.mem_append]; exact .inl hy)
  ·
   have hidx : (es.push ⟨encK a, encV z, clock⟩).findIdx? (fun e => ((e.born : Nat) : Int) == ((clock : Nat) : Int)) = some es.size := by
    rw [WideElems.findIdx_arr]
    have := WideElems.findIdx_born (l := (es.push ⟨encK a, encV z, clock⟩).toList) (j := es.size) (e0 := ⟨encK a, encV z, clock⟩) (by
     simp only [Array.toList_push, List.map_append, List.map_cons, List.map_nil]
     refine List.nodup_append.2 ⟨s2, by simp, fun a ha c hc e1 => ?_⟩
     simp only [List.mem_singleton] at hc
     obtain ⟨x, hx, rfl⟩ := List.mem_map.1 ha
     have := s1 x hx
     omega) (by simp)
    exact this
   have hmod : (es.push ⟨encK a, encV z, clock⟩).modify es.size (fun e => { e with val := encV v }) = es.push ⟨encK a, encV v, clock⟩ := by
    apply Array.ext'
    rw [Array.toList_modify, Array.toList_push, Array.toList_push, ← Array.length_toList, WideElems.modify_last]
   refine ⟨setBlock W1 b (.map (es.push ⟨encK a, encV v, clock⟩) (clock + 1)), ?_, Is.pushed ha v hs hn hes hz h2 (heap_setBlock_same hb1 _), hgrow _ _ _ _ hG hb1⟩
   · simp [Instr.entryStore, MapKept.run_getObj_map hb1, asInt, asIntOf, goInt, hidx, hmod, MapKept.run_setObj_map _ hb1, Result.andThen, setBlock]
 ·
  have hj : es[j]? = some x := by simpa using h2
  have hsame : es.modify j (fun e => { e with key := encK a }) = es := by
   apply Array.ext'
   rw [Array.toList_modify, modify_eq_set _ _ _ _ h2]
   have : ({ x with key := encK a } : MapEntry) = x := by rw [← h3]
   rw [this]
   exact WideElems.set_self _ _ _ h2
  have hb1 := heap_setBlock_same hb (.map es clock)
  have hA : (Instr.mapEntry t (.map (some b)) (encK a)).run P w = .ok (.tuple #[encV (f a), goInt x.born]) (setBlock w b (.map es clock)) := by
   rw [← h4]
   rw [← h4] at h1
   simp [Instr.mapEntry, run_underlying L.type, MapKept.run_getObj_map hb, L.keyed.check w false hl, h1, hj, h3, L.keyed.stays w hl, hsame, MapKept.run_setObj_map _ hb, Result.andThen, setBlock]
  have hG := grown_setBlock (.map es clock) hb
  generalize setBlock w b (.map es clock) = W1 at *
  refine ⟨W1, x.born, hA, ⟨es, clock, hb1, hs, by omega, hes, hz⟩, hG, fun v => ?_⟩
  have hidx : es.findIdx? (fun e => ((e.born : Nat) : Int) == ((x.born : Nat) : Int)) = some j := by
   rw [WideElems.findIdx_arr]
   exact WideElems.findIdx_born s2 h2
  refine ⟨setBlock W1 b (.map (es.modify j (fun e => { e with val := encV v })) clock), ?_, Is.changed L ha v hs hn hes hz h2 h3 (heap_setBlock_same hb1 _), hgrow _ _ _ _ hG hb1⟩
  · simp [Instr.entryStore, MapKept.run_getObj_map hb1, asInt, asIntOf, goInt, hidx, MapKept.run_setObj_map _ hb1, Result.andThen, setBlock]
theorem Is.update {w : World} {b n : Nat} {f : α → β} (h : Is encK encV G z w b n f) {a : α} (ha : G a) (v : β) :
  ∃ W2, (Instr.mapUpdate t (.map (some b)) (encK a) (encV v)).run P w = .ok () W2 ∧ Is encK encV G z W2 b (n + 1) (upd f a v) ∧ w.grownBy W2 (some b) := by
 obtain ⟨es, clock, hb, hs, hn, hes, hz⟩ := h
 obtain ⟨l, hl⟩ := L.key a ha
 rcases Is.cases L (w := w) (f := f) ha es.toList hes with ⟨h1, h2⟩ | ⟨j, x, h1, h2, h3, h4⟩
 ·
  refine ⟨setBlock w b (.map (es.push ⟨encK a, encV v, clock⟩) (clock + 1)), ?_, Is.pushed ha v hs hn hes hz h2 (heap_setBlock_same hb _), grown_setBlock _ hb⟩
  simp [Instr.mapUpdate, run_underlying L.type, MapKept.run_getObj_map hb, L.keyed.check w false hl, h1, MapKept.run_setObj_map _ hb, Result.andThen, setBlock]
 ·
  have hj : es[j]? = some x := by simpa using h2
  have hmod : es.modify j (fun e' => { e' with key := encK a, val := encV v }) = es.modify j (fun e => { e with val := encV v }) := by
   apply Array.ext'
   rw [Array.toList_modify, Array.toList_modify, modify_eq_set _ _ _ _ h2, modify_eq_set _ _ _ _ h2, ← h3]
  refine ⟨setBlock w b (.map (es.modify j (fun e => { e with val := encV v })) clock), ?_, Is.changed L ha v hs hn hes hz h2 h3 (heap_setBlock_same hb _), grown_setBlock _ hb⟩
  rw [← hmod]
  simp [Instr.mapUpdate, run_underlying L.type, MapKept.run_getObj_map hb, L.keyed.check w false hl, h1, hj, h3, L.keyed.stays w hl, MapKept.run_setObj_map _ hb, Result.andThen, setBlock]
end
end Go.Mp
