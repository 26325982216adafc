/- Words of our own on sorting a row: a row of plain elements as the sort's row, and what the sort leaves of it. -/
import Derived.Test.YtbdhmfjeamjfdaaXQWd
import Derived.Shelf.SlSortCmp.NoneTotal
import Derived.Sort.AssemblyPlain
namespace Go.Proofs.Ytbdhmfjeamjfdaa.Q
open Go.RowKit Go.Proofs.YtbdhmfjeamjfdaaW.PrintWords Go.Proofs.YtbdhmfjeamjfdaaW.PrintLast Go.Proofs.YtbdhmfjeamjfdaaW.PrintMore
set_option linter.unusedVariables false
set_option linter.unusedSimpArgs false
namespace Srt
def Below (B : Nat) (w w' : World) : Prop := Go.RowKit.Below B w w' ∧ w.drawn ≤ w'.drawn
theorem Below.refl (B : Nat) (w : World) : Below B w w := ⟨Go.RowKit.Below.refl B w, Nat.le_refl _⟩
theorem below_alloc {w W : World} (h : Below w.heap.size w W) (o : Obj) : Below w.heap.size w (W.alloc o) := ⟨Go.Proofs.YtbdhmfjeamjfdaaW.PrintWords.below_alloc h.1 o, h.2⟩
theorem pw_below_drewN {B : Nat} {w W : World} (h : Below B w W) (n : Nat) : Below B w (W.drewN n) := ⟨Go.Proofs.YtbdhmfjeamjfdaaW.PrintWords.pw_below_drewN h.1 n, Nat.le_trans h.2 (Nat.le_add_right _ _)⟩
theorem below_drew1 {B : Nat} {w W : World} (h : Below B w W) : Below B w W.drew := ⟨Go.Proofs.YtbdhmfjeamjfdaaW.PrintWords.below_drew1 h.1, Nat.le_trans h.2 (Nat.le_add_right _ _)⟩
theorem below_size {w W : World} (h : Below w.heap.size w W) : w.heap.size ≤ W.heap.size := h.1.size
theorem below_step {w W w2 : World} (h : Below w.heap.size w W) (k : Below W.heap.size W w2) : Below w.heap.size w w2 := ⟨Go.Proofs.YtbdhmfjeamjfdaaW.PrintWords.below_step h.1 k.1, Nat.le_trans h.2 k.2⟩
theorem below_set {w W : World} {g j : Nat} {v : Value} (h : Below w.heap.size w W) (hg : w.heap.size ≤ g) : Below w.heap.size w (W.setCell ⟨g, j, none⟩ v) := ⟨Go.Proofs.YtbdhmfjeamjfdaaW.PrintWords.below_set h.1 hg, h.2⟩
theorem blk_below {w w1 : World} {g : Nat} {o : Obj} (h : w.heap[g]? = some o) (hb : Below w.heap.size w w1) : w1.heap[g]? = some o := Go.Proofs.YtbdhmfjeamjfdaaW.PrintWords.blk_below h hb.1
section
variable {P : Program} {ops : Array Oper} {rest : List Oper} {o : Oper} {a : Act} {Q : Exit → Act → World → Prop} {Kc : Act → World → Prop}
theorem box_event {W : World} (hgd : o.guard = none) {N : Tmp} (_hd : o.dst = some N) {cs : Array Value} {t : TypeId}
  (hrun : (execOp a.eval o).run P W = .ok (.value (.pointer (some ⟨W.heap.size, 0, none⟩))) (W.alloc (.cells cs t (0, 0))))
  (h : ∀ g, g = W.heap.size → ∀ w1, w1.heap[g]? = some (.cells cs t (0, 0)) → Below W.heap.size W w1 → wpList P ops Q rest (a.put o.dst (.pointer (some ⟨g, 0, none⟩))) w1) : wpList P ops Q (o :: rest) a W :=
 Kd.event_run hgd hrun (h _ rfl _ (blk_new W _) (below_alloc (Below.refl _ _) _))
theorem Kd.R_lit_step {α : Type} (d : Kd α) {w0 W : World} (base e : Nat) (hw : Region.wanted o (yielded ops a.tmps) = true) {N : Tmp} (_hd : o.dst = some N) {xs : List α} {inner : List Value} {ok okp : Nat → Prop}
  (hrun : (execOp a.eval o).run P W = .ok (.value (.slice (some ⟨W.heap.size, 0, none⟩) xs.length xs.length)) (W.alloc (.cells inner.toArray e)))
  (hrep : Reps (d.M W base okp) d.sz xs inner) (hok : ∀ k, okp k → ok k) (hfresh : ok W.heap.size) (HB : Below base w0 W) (hbase : base ≤ W.heap.size) (hm : xs.length ≤ 9223372036854775807)
  (h : ∀ v1 w1, d.R e w1 base ok v1 xs → Below base w0 w1 → W.grownBy w1 none → (∃ b, v1.ownBlock = some b ∧ W.heap.size ≤ b) → Kc (a.put o.dst v1) w1) : if Region.wanted o (yielded ops a.tmps) = true then Oper.wp P o a W Kc Q else Kc (a.put o.dst undef) W := by
 refine event_step hw hrun (h _ _ ⟨fun k hk => ?_, inner, ?_, ?_⟩ ⟨HB.1.alloc hbase _, HB.2⟩ (World.grownBy_alloc W _ none) ⟨W.heap.size, by simp [Value.ownBlock], Nat.le_refl _⟩)
 ·
  have : W.heap.size = k := by simpa [Value.ownBlock] using hk
  subst this
  exact hfresh
 ·
  have h2 := World.ownsRow_lit (base := base) (e := e) (size := d.sz) W inner.toArray xs.length hbase (by simpa [maxLen] using hm) (by simpa using hrep.1)
  simpa using h2
 ·
  refine hrep.imp_ (fun p c hp => d.M_mono (fun k hk => ⟨hok k hk.1, fun he => ?_⟩) (Kd.M_below (d.M_bound hp) (Go.Proofs.YtbdhmfjeamjfdaaW.PrintWords.below_alloc (Go.RowKit.Below.refl _ _) _)))
  have h3 : k = W.heap.size := by simpa [Value.ownBlock] using he
  have := hk.2.2.1
  omega
end
theorem ext_world {w w' : World} (h : w'.heap = w.heap) (ht : w'.tape = w.tape) (hd : w'.drawn = w.drawn) (ho : w'.os = w.os) (hu : w'.output = w.output) : w' = w := by
 cases w; cases w'; simp_all
theorem grow_of {w w' : World} (h : Below w.heap.size w w') : ∃ q os', w' = Go.Sort.grow (w.drewN q) os' := by
 obtain ⟨h, hd⟩ := h
 refine ⟨w'.drawn - w.drawn, (w'.heap.extract w.heap.size w'.heap.size), ext_world ?_ h.tape ?_ h.os h.output⟩
 ·
  show w'.heap = w.heap ++ w'.heap.extract w.heap.size w'.heap.size
  apply Array.ext_getElem?
  intro i
  by_cases hi : i < w.heap.size
  ·
   rw [Array.getElem?_append_left hi]
   exact h.block i hi
  ·
   rw [Array.getElem?_append_right (by omega), Array.getElem?_extract]
   have hs := h.size
   by_cases h2 : i < w'.heap.size
   · rw [if_pos (by omega), Nat.add_sub_cancel' (by omega)]
   · rw [if_neg (by omega), Array.getElem?_eq_none (by omega)]
 ·
  show w'.drawn = w.drawn + (w'.drawn - w.drawn)
  omega
end Srt
section
variable {α : Type} [Inhabited α] {d : Kd α} {enc : α → List Value}
theorem flat_get (k : Nat) (hk : ∀ x, (enc x).length = k) {l : List α} {inner : List Value} (hl : inner.length = l.length * k) (hi : ∀ j p, l[j]? = some p → (inner.drop (j * k)).take k = enc p) (t : Nat) (ht : t < l.length * k) : inner[t]? = some (Go.Sort.flatK enc k l.toArray)[t]! := by
 have k0 : 0 < k := by
  rcases Nat.eq_zero_or_pos k with h | h
  · subst h; simp at ht
  · exact h
 have hj : t / k < l.length := (Nat.div_lt_iff_lt_mul k0).2 ht
 rw [Go.Sort.get_flatK enc k l.toArray t (by simpa using ht)]
 have h1 := hi (t / k) _ (List.getElem?_eq_getElem hj)
 have h2 : l.toArray[t / k]! = l[t / k] := by simp [hj]
 rw [h2, ← h1]
 have hm : t % k < k := Nat.mod_lt _ k0
 have h3 : t / k * k + t % k = t := Nat.div_add_mod' t k
 have h4 : ((inner.drop (t / k * k)).take k)[t % k]? = inner[t]? := by
  rw [List.getElem?_take_of_lt hm, List.getElem?_drop, h3]
 have h5 : t % k < ((inner.drop (t / k * k)).take k).length := by rw [h1, hk]; exact hm
 rw [← h4, List.getElem?_eq_getElem h5, List.getElem!_eq_getElem?_getD, List.getElem?_eq_getElem h5]
 rfl
theorem holds_row (hM : ∀ w base ok x cs, d.M w base ok x cs → cs = enc x) (hk : ∀ x, (enc x).length = d.sz) {e : Nat} {w : World} {base : Nat} {ok : Nat → Prop} {g n cap : Nat} {l : List α} (ho : Kd.R d e w base ok (.slice (some ⟨g, 0, none⟩) n cap) l) :
  Go.Sort.HoldsK enc d.sz w g 0 l.toArray ∧ g < w.heap.size ∧ n = l.length ∧ ok g ∧ base ≤ g := by
 obtain ⟨hok, inner, ⟨hlen, hr⟩, hreps⟩ := ho
 rcases hr with ⟨hv, _⟩ | ⟨g', cap', cur, hv, hb, hh, hn, _, hs, htk⟩
 · cases hv
 ·
  cases hv
  refine ⟨fun j hj => ?_, blk_lt hh, rfl, hok g (by simp [Value.ownBlock]), hb⟩
  have hj' : j < l.length * d.sz := by simpa using hj
  rw [Nat.zero_add]
  refine ⟨?_, blk_frozen hh j⟩
  have h1 := flat_get d.sz hk hlen (fun i p hp => hM _ _ _ _ _ (hreps.2 i p hp)) j hj'
  show w.cell? _ = some ((Go.Sort.flatK enc d.sz l.toArray)[j]!)
  rw [blk_cell hh, ← h1, ← htk, List.getElem?_take_of_lt hj']
  simp
theorem putCells_take (k : Nat) (d' : Array α) (cur : Array Value) (h : d'.size * k ≤ cur.size) : (Go.Sort.putCells id 0 (Go.Sort.flatK enc k d') cur).toList.take (d'.size * k) = (Go.Sort.flatK enc k d').toList := by
 have hs : (Go.Sort.flatK enc k d').size = d'.size * k := Go.Sort.size_flatK enc k d'
 apply List.ext_getElem?
 intro i
 by_cases hi : i < d'.size * k
 ·
  rw [List.getElem?_take_of_lt hi]
  have h1 : i < cur.size := by omega
  have h2 : i < (Go.Sort.flatK enc k d').size := by omega
  have h3 : (Go.Sort.flatK enc k d')[i]? = some ((Go.Sort.flatK enc k d')[i]!) := by rw [getElem!_pos _ i h2]; exact Array.getElem?_eq_getElem h2
  simp [Go.Sort.putCells, h1, hi, h3]
 · rw [List.getElem?_eq_none (by simp; omega), List.getElem?_eq_none (by simp [hs]; omega)]
theorem flat_reps (k : Nat) (hk : ∀ x, (enc x).length = k) (d' : Array α) (j : Nat) (p : α) (hp : d'.toList[j]? = some p) : ((Go.Sort.flatK enc k d').toList.drop (j * k)).take k = enc p := by
 obtain ⟨hj, he⟩ := List.getElem?_eq_some_iff.1 hp
 have hj' : j < d'.size := by simpa using hj
 have hb : j * k + k ≤ d'.size * k := by rw [← Nat.succ_mul]; exact Nat.mul_le_mul_right k hj'
 apply List.ext_getElem?
 intro i
 by_cases hi : i < k
 ·
  rw [List.getElem?_take_of_lt hi, List.getElem?_drop]
  have h1 : j * k + i < d'.size * k := by omega
  have h2 := Go.Sort.get_flatK enc k d' (j * k + i) h1
  have h3 : (j * k + i) / k = j := by rw [Nat.mul_comm, Nat.mul_add_div (by omega), Nat.div_eq_of_lt hi, Nat.add_zero]
  have h4 : (j * k + i) % k = i := by rw [Nat.mul_comm, Nat.mul_add_mod, Nat.mod_eq_of_lt hi]
  rw [h3, h4] at h2
  have h5 : j * k + i < (Go.Sort.flatK enc k d').size := by rw [Go.Sort.size_flatK]; exact h1
  have h6 : i < (enc p).length := by rw [hk]; exact hi
  have h7 : d'[j]! = p := by rw [← he]; simp [hj']
  rw [h7] at h2
  have e1 : (Go.Sort.flatK enc k d').toList[j * k + i]? = some ((Go.Sort.flatK enc k d')[j * k + i]!) := by rw [getElem!_pos (Go.Sort.flatK enc k d') _ h5, Array.getElem?_toList]; exact Array.getElem?_eq_getElem h5
  rw [e1, h2, List.getElem?_eq_getElem h6]
  simp [h6]
 · rw [List.getElem?_eq_none (by simp; omega), List.getElem?_eq_none (by rw [hk]; omega)]
theorem sorted_heap {w : World} {g k n : Nat} {d' : Array α} {os : Array Obj} {cur : Array Value} {e : Nat} (hh : w.heap[g]? = some (.cells cur e (0, 0))) : (Go.Proofs.sortWorldK enc k w g 0 n d' os).heap[g]? = some (.cells (Go.Sort.putCells id 0 (Go.Sort.flatK enc k d') cur) e (0, 0)) := by
 have hg := blk_lt hh
 show ((w.heap.modify g (Go.Sort.onCells _)) ++ os)[g]? = _
 rw [Array.getElem?_append_left (by simpa using hg), Array.getElem?_modify, if_pos rfl, hh]
 rfl
theorem sorted_other {w : World} {g k n : Nat} {d' : Array α} {os : Array Obj} {i : Nat} (hi : i < w.heap.size) (hne : g ≠ i) : (Go.Proofs.sortWorldK enc k w g 0 n d' os).heap[i]? = w.heap[i]? := by
 show ((w.heap.modify g (Go.Sort.onCells _)) ++ os)[i]? = _
 rw [Array.getElem?_append_left (by simpa using hi), Array.getElem?_modify, if_neg hne]
theorem sorted_row (hM : ∀ w base ok x, d.M w base ok x (enc x)) (hk : ∀ x, (enc x).length = d.sz) {e : Nat} {w0 w : World} {ok : Nat → Prop} {g n cap : Nat} {l : List α} (ho : Kd.R d e w w0.heap.size ok (.slice (some ⟨g, 0, none⟩) n cap) l)
  (hB : Below w0.heap.size w0 w) {q : Nat} {os : Array Obj} {d' : Array α} (hsz : d'.size = l.length) :
  Kd.R d e (Go.Proofs.sortWorldK enc d.sz w g 0 q d' os) w0.heap.size (fun k_ => (ok k_ ∨ w.heap.size ≤ k_)) (.slice (some ⟨g, 0, none⟩) n cap) d'.toList ∧ Below w0.heap.size w0 (Go.Proofs.sortWorldK enc d.sz w g 0 q d' os) ∧ Kept w (Go.Proofs.sortWorldK enc d.sz w g 0 q d' os) (fun k_ => ok k_) := by
 obtain ⟨hok, inner, ⟨hlen, hr⟩, hreps⟩ := ho
 rcases hr with ⟨hv, _⟩ | ⟨g', cap', cur, hv, hb, hh, hn, hcap, hs, htk⟩
 · cases hv
 ·
  cases hv
  have hg : ok g := hok g (by simp [Value.ownBlock])
  have hz : w.heap.size ≤ (Go.Proofs.sortWorldK enc d.sz w g 0 q d' os).heap.size := by
   show _ ≤ ((w.heap.modify g (Go.Sort.onCells _)) ++ os).size
   simp
  have hd : d'.size * d.sz ≤ cur.size := by rw [hs, hsz]; exact Nat.mul_le_mul_right _ hn
  refine ⟨⟨fun k hk_ => .inl (hok k hk_), (Go.Sort.flatK enc d.sz d').toList, ⟨by simp [hsz], .inr ⟨g, cap, _, by simp [hsz], hb, sorted_heap hh, by simpa [hsz] using hn, hcap, by simp [Go.Sort.putCells, hs], ?_⟩⟩, by simp, fun j p hp => ?_⟩, ⟨hB.os, hB.tape, hB.output, Nat.le_trans hB.size hz, fun k hk_ => ?_⟩, hz, fun i hi hne => sorted_other hi (fun h => hne (h ▸ hg))⟩
  ·
   have := putCells_take (enc := enc) d.sz d' cur hd
   rw [show d'.toList.length = d'.size by simp]
   exact this
  ·
   rw [flat_reps d.sz hk d' j p hp]
   exact hM _ _ _ _
  ·
   rw [sorted_other (Nat.lt_of_lt_of_le hk_ hB.size) (by omega)]
   exact hB.block k hk_
end
def cmpZ (a b : Int) : Int := if a < b then -1 else if a > b then 1 else 0
def cmpZ2 (a b c d : Int) : Int := if cmpZ a b = 0 then cmpZ c d else cmpZ a b
theorem cmpZ_lt (a b : Int) : cmpZ a b < 0 ↔ a < b := by
 unfold cmpZ
 split
 · simp_all
 · split <;> simp_all
theorem cmpZ_zero (a b : Int) : cmpZ a b = 0 ↔ a = b := by
 unfold cmpZ
 split
 · simp; omega
 ·
  split
  · simp; omega
  · simp; omega
theorem cmpZ2_lt (a b c d : Int) : cmpZ2 a b c d < 0 ↔ (a < b ∨ (a = b ∧ c < d)) := by
 unfold cmpZ2
 split
 ·
  rename_i h
  rw [cmpZ_zero] at h
  rw [cmpZ_lt]
  omega
 ·
  rename_i h
  rw [cmpZ_zero] at h
  rw [cmpZ_lt]
  omega
def before2 {α : Type} (p q : α → Int) (x y : α) : Prop := p x < p y ∨ (p x = p y ∧ q x < q y)
theorem ltOf2 {α : Type} (p q : α → Int) (x y : α) : Go.Proofs.ltOf (fun x y => cmpZ2 (p x) (p y) (q x) (q y)) x y = true ↔ before2 p q x y := by
 unfold Go.Proofs.ltOf before2
 rw [decide_eq_true_eq, cmpZ2_lt]
theorem ltOf2_not {α : Type} (p q : α → Int) (x y : α) : Go.Proofs.ltOf (fun x y => cmpZ2 (p x) (p y) (q x) (q y)) x y = false ↔ ¬ before2 p q x y := by
 rw [← ltOf2, Bool.not_eq_true]
theorem swo2 {α : Type} (p q : α → Int) : Go.Sort.SWO (Go.Proofs.ltOf (fun x y : α => cmpZ2 (p x) (p y) (q x) (q y))) where
 irrefl x := by rw [ltOf2_not]; unfold before2; omega
 trans x y z h1 h2 := by rw [ltOf2] at *; unfold before2 at *; omega
 ntrans x y z h1 h2 := by rw [ltOf2_not] at *; unfold before2 at *; omega
def sort2 {α : Type} [Inhabited α] (p q : α → Int) (l : List α) : List α := (Go.Sort.pdq (Go.Proofs.ltOf (fun x y : α => cmpZ2 (p x) (p y) (q x) (q y))) l.toArray 0 l.toArray.size (Lib.bitLen l.toArray.size) true true).toList
theorem sort2_perm {α : Type} [Inhabited α] (p q : α → Int) (l : List α) : (sort2 p q l).Perm l := by
 obtain ⟨⟨h1, _, h3⟩, _⟩ := Go.Sort.pdq_sorts _ (swo2 p q) l.toArray 0 l.toArray.size (Lib.bitLen l.toArray.size) true true (Nat.zero_le _) (Nat.le_refl _) (Or.inl rfl)
 have h2 : ∀ (a : Array α), a.size = l.toArray.size → (a.extract 0 l.toArray.size).toList = a.toList := fun a ha => by rw [← ha, Array.extract_size]
 rw [h2 _ h1, h2 _ rfl] at h3
 exact h3
theorem sort2_size {α : Type} [Inhabited α] (p q : α → Int) (l : List α) : (Go.Sort.pdq (Go.Proofs.ltOf (fun x y : α => cmpZ2 (p x) (p y) (q x) (q y))) l.toArray 0 l.toArray.size (Lib.bitLen l.toArray.size) true true).size = l.length := by
 have h := (sort2_perm p q l).length_eq
 simpa [sort2] using h
theorem sort2_sorted {α : Type} [Inhabited α] (p q : α → Int) (l : List α) : (sort2 p q l).Pairwise (fun x y => ¬ before2 p q y x) := by
 obtain ⟨_, h⟩ := Go.Sort.pdq_sorts _ (swo2 p q) l.toArray 0 l.toArray.size (Lib.bitLen l.toArray.size) true true (Nat.zero_le _) (Nat.le_refl _) (Or.inl rfl)
 have hs := sort2_size p q l
 rw [List.pairwise_iff_getElem]
 intro i j hi hj hij
 have hj' : j < (Go.Sort.pdq (Go.Proofs.ltOf (fun x y : α => cmpZ2 (p x) (p y) (q x) (q y))) l.toArray 0 l.toArray.size (Lib.bitLen l.toArray.size) true true).size := by simpa [sort2] using hj
 have h1 := h i j (Nat.zero_le _) hij (by simp; omega)
 rw [ltOf2_not, getElem!_pos _ j hj', getElem!_pos _ i (by omega)] at h1
 simpa [sort2] using h1
end Go.Proofs.Ytbdhmfjeamjfdaa.Q
