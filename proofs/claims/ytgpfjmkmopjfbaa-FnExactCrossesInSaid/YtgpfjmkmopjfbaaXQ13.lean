-- Trimmed by a program of this session's.
import Derived.Test.YtgpfjmkmopjfbaaXQ0
import Derived.Ground.Names2Prog
import Derived.Ground.NamesProg
import Derived.Lib.RowBridge
import Derived.Shelf.Slices.CompactI
import Derived.Shelf.Slices.In.SortNone
import Derived.Shelf.Sort.Plain
namespace Go.Proofs.Ytgpfjmkmopjfbaa.Q
open Go.RowKit Go.Proofs.YtgpfjmkmopjfbaaW.PrintWords Go.Proofs.YtgpfjmkmopjfbaaW.PrintLast Go.Proofs.YtgpfjmkmopjfbaaW.PrintMore
attribute [local go_sem] max2_int min2_int max_two min_two max_three min_three max_four min_four
set_option linter.unusedVariables false
set_option linter.unusedSimpArgs false
section
open Go.Shelf
def slices_Sort_int_int_lays_ren : Go.Shelf.Ren := ⟨fun | 189 => 37 | 125 => 60 | 257 => 59 | 128 => 74 | 129 => 75 | 294 => 65 | 295 => 66 | 296 => 67 | 297 => 68 | 298 => 69 | 299 => 70 | 216 => 71 | 300 => 72 | 301 => 73 | 328 => 86 | 329 => 87 | 330 => 88 | 331 => 89 | 332 => 90 | 215 => 91 | 343 => 96 | n => n, fun | 28 => 70 | 3 => 3 | 46 => 90 | 0 => 0 | 51 => 104 | 53 => 106 | 4 => 4 | 183 => 97 | 182 => 96 | 131 => 101 | 5 => 5 | 9 => 9 | 218 => 114 | 222 => 118 | 228 => 124 | 229 => 125 | n => n, fun | n => n⟩
theorem slices_Sort_int_int_lays : Go.Proofs.Lays.n189 Try.prog slices_Sort_int_int_lays_ren := {
 mixed := by kernel_rfl
 f125 := Try.func60.trans (congrArg some (by kernel_rfl))
 f128 := Try.func74.trans (congrArg some (by kernel_rfl))
 f129 := Try.func75.trans (congrArg some (by kernel_rfl))
 f189 := Try.func37.trans (congrArg some (by kernel_rfl))
 f215 := Try.func91.trans (congrArg some (by kernel_rfl))
 f216 := Try.func71.trans (congrArg some (by kernel_rfl))
 f257 := Try.func59.trans (congrArg some (by kernel_rfl))
 f294 := Try.func65.trans (congrArg some (by kernel_rfl))
 f295 := Try.func66.trans (congrArg some (by kernel_rfl))
 f296 := Try.func67.trans (congrArg some (by kernel_rfl))
 f297 := Try.func68.trans (congrArg some (by kernel_rfl))
 f298 := Try.func69.trans (congrArg some (by kernel_rfl))
 f299 := Try.func70.trans (congrArg some (by kernel_rfl))
 f300 := Try.func72.trans (congrArg some (by kernel_rfl))
 f301 := Try.func73.trans (congrArg some (by kernel_rfl))
 f328 := Try.func86.trans (congrArg some (by kernel_rfl))
 f329 := Try.func87.trans (congrArg some (by kernel_rfl))
 f330 := Try.func88.trans (congrArg some (by kernel_rfl))
 f331 := Try.func89.trans (congrArg some (by kernel_rfl))
 f332 := Try.func90.trans (congrArg some (by kernel_rfl))
 f343 := Try.func96.trans (congrArg some (by kernel_rfl))
 t0 := Try.underlying0
 a0 := Try.isAgg0
 z0 := Try.sizeOf0
 v0 := Try.zeroValue0
 t3 := Try.underlying3
 a3 := Try.isAgg3
 z3 := Try.sizeOf3
 v3 := Try.zeroValue3
 t4 := Try.underlying4
 a4 := Try.isAgg4
 z4 := Try.sizeOf4
 v4 := Try.zeroValue4
 t5 := Try.underlying5
 a5 := Try.isAgg5
 z5 := Try.sizeOf5
 v5 := Try.zeroValue5
 t9 := Try.underlying9
 a9 := Try.isAgg9
 z9 := Try.sizeOf9
 v9 := Try.zeroValue9
 t28 := Try.underlying70
 a28 := Try.isAgg70
 z28 := Try.sizeOf70
 v28 := Try.zeroValue70
 t46 := Try.underlying90
 a46 := Try.isAgg90
 z46 := Try.sizeOf90
 v46 := Try.zeroValue90
 t51 := Try.underlying104
 a51 := Try.isAgg104
 z51 := Try.sizeOf104
 v51 := Try.zeroValue104
 t53 := Try.underlying106
 a53 := Try.isAgg106
 z53 := Try.sizeOf106
 v53 := Try.zeroValue106
 t131 := Try.underlying101
 a131 := Try.isAgg101
 z131 := Try.sizeOf101
 v131 := Try.zeroValue101
 t182 := Try.underlying96
 a182 := Try.isAgg96
 z182 := Try.sizeOf96
 v182 := Try.zeroValue96
 t183 := Try.underlying97
 a183 := Try.isAgg97
 z183 := Try.sizeOf97
 v183 := Try.zeroValue97
 t218 := Try.underlying114
 a218 := Try.isAgg114
 z218 := Try.sizeOf114
 v218 := Try.zeroValue114
 t222 := Try.underlying118
 a222 := Try.isAgg118
 z222 := Try.sizeOf118
 v222 := Try.zeroValue118
 t228 := Try.underlying124
 a228 := Try.isAgg124
 z228 := Try.sizeOf124
 v228 := Try.zeroValue124
 t229 := Try.underlying125
 a229 := Try.isAgg125
 z229 := Try.sizeOf125
 v229 := Try.zeroValue125 }
end
theorem slices_Sort_int_int.holds {e : Nat} {w : World} {base : Nat} {ok : Nat → Prop} {g n cap : Nat} {l : List Int} (ho : Kd.R (Kd.int .i64) e w base ok (.slice (some ⟨g, 0, none⟩) n cap) l) :
  Go.Sort.Holds (Value.int .i64) w g 0 l.toArray ∧ g < w.heap.size ∧ n = l.length ∧ n ≤ cap := by
 obtain ⟨hok, inner, ⟨hlen, hr⟩, hreps⟩ := ho
 rcases hr with ⟨hv, _⟩ | ⟨g', cap', cur, hv, hb, hh, hn, _, hs, htk⟩
 · cases hv
 ·
  cases hv
  have hin : ∀ j, j < l.length → cur[j]? = some (.int .i64 (l[j]!)) := by
   intro j hj; have h1 := hreps.2 j l[j]! (by rw [List.getElem?_eq_getElem hj]; simp [hj]); have h2 : (inner.drop (j * 1)).take 1 = [.int .i64 l[j]!] := h1; have h3 : inner[j]? = some (.int .i64 l[j]!) := by
    have h4 := congrArg (fun l => l[0]?) h2
    simpa [List.getElem?_take, List.getElem?_drop] using h4
   rw [← htk, List.getElem?_take_of_lt (by show j < l.length * 1; omega)] at h3
   simpa using h3
  exact ⟨fun j hj => by
   have hj' : j < l.length := by simpa using hj
   rw [Nat.zero_add]; refine ⟨?_, kF_ hh j⟩; rw [kC_ hh, hin j hj']
   simp [hj'], kL_ hh, rfl, hn⟩
theorem slices_Sort_int_int.left {e : Nat} {w0 w : World} {ok : Nat → Prop} {g n cap : Nat} {l : List Int} (ho : Kd.R (Kd.int .i64) e w w0.heap.size ok (.slice (some ⟨g, 0, none⟩) n cap) l)
  (hB : Below w0.heap.size w0 w) (q : Nat) (os : Array Obj) (dd : List Int) (hsz : dd.length = l.length) (m : Nat) (hm : m ≤ l.length) (fl : List Int) (hfl : fl = dd.take m) :
  Kd.R (Kd.int .i64) e (Go.Sort.grow (Go.Sort.putRow (Value.int .i64) (Go.Sort.ahead w q) g 0 dd.toArray) os) w0.heap.size (fun k_ => (ok k_ ∨ w.heap.size ≤ k_)) (.slice (some ⟨g, 0, none⟩) m cap) fl ∧ Below w0.heap.size w0 (Go.Sort.grow (Go.Sort.putRow (Value.int .i64) (Go.Sort.ahead w q) g 0 dd.toArray) os) ∧ Kept w (Go.Sort.grow (Go.Sort.putRow (Value.int .i64) (Go.Sort.ahead w q) g 0 dd.toArray) os) (fun k_ => ok k_) := by
 obtain ⟨hok, inner, ⟨hlen, hr⟩, hreps⟩ := ho
 rcases hr with ⟨hv, _⟩ | ⟨g', cap', cur, hv, hb, hh, hn, hcap, hsz2, htk⟩
 · cases hv
 ·
  cases hv
  have hg : ok g := hok g (by simp [Value.ownBlock]); have hfm : fl.length = m := by rw [hfl, List.length_take]; omega
  have hlt := kL_ hh; have hw : (Go.Sort.grow (Go.Sort.putRow (Value.int .i64) (Go.Sort.ahead w q) g 0 dd.toArray) os).heap[g]? = some (.cells (Go.Sort.putCells (Value.int .i64) 0 dd.toArray cur) e (0, 0)) := by
   show ((w.heap.modify g (Go.Sort.onCells _)) ++ os)[g]? = _
   rw [Array.getElem?_append_left (by simpa using hlt), Array.getElem?_modify, if_pos rfl, hh]
   rfl
  have ho : ∀ i, i < w.heap.size → g ≠ i → (Go.Sort.grow (Go.Sort.putRow (Value.int .i64) (Go.Sort.ahead w q) g 0 dd.toArray) os).heap[i]? = w.heap[i]? := fun i hi hne => by
   show ((w.heap.modify g (Go.Sort.onCells _)) ++ os)[i]? = _
   rw [Array.getElem?_append_left (by simpa using hi), Array.getElem?_modify, if_neg hne]
  have hz : w.heap.size ≤ (Go.Sort.grow (Go.Sort.putRow (Value.int .i64) (Go.Sort.ahead w q) g 0 dd.toArray) os).heap.size := by
   show _ ≤ ((w.heap.modify g (Go.Sort.onCells _)) ++ os).size
   simp
  have hcs : cur.size = cap := by have h_ : cur.size = cap * 1 := hsz2; omega
  refine ⟨⟨fun k_ hk_ => .inl (hok k_ hk_), fl.map (Value.int .i64), ⟨by show (fl.map _).length = fl.length * 1; simp, .inr ⟨g, cap, _, by rw [hfm], hb, hw, by omega, hcap, by show _ = cap * 1; simp [Go.Sort.putCells, hcs], ?_⟩⟩, by show (fl.map _).length = fl.length * 1; simp, fun j p hp => ?_⟩, ⟨hB.os, hB.tape, hB.output, Nat.le_trans hB.size hz, fun i hi => by rw [ho i (nT_ hi hB.size) (by omega)]; exact hB.block i hi⟩, hz, fun i hi hne => ho i hi (fun e_ => hne (by rw [← e_]; exact hg))⟩
  ·
   show List.take (fl.length * 1) _ = _
   rw [Nat.mul_one]
   apply List.ext_getElem?
   intro i
   by_cases hi : i < fl.length
   ·
    have h1 : i < cur.size := by omega
    have h2 : i < dd.length := by omega
    have h3 : dd[i]? = fl[i]? := by rw [hfl, List.getElem?_take_of_lt (by omega)]
    have h4 : dd[i] = fl[i] := by
     have h5 := List.getElem?_eq_getElem h2; rw [h3, List.getElem?_eq_getElem hi] at h5; exact (Option.some.inj h5).symm
    rw [List.getElem?_take_of_lt hi]
    simp [Go.Sort.putCells, h1, h2, hi]
    exact h4
   · rw [List.getElem?_eq_none (by simp; omega), List.getElem?_eq_none (by simpa using hi)]
  ·
   obtain ⟨hj, he⟩ := List.getElem?_eq_some_iff.1 hp
   show ((fl.map (Value.int .i64)).drop (j * 1)).take 1 = [.int .i64 p]
   rw [Nat.mul_one, ← List.map_drop, List.drop_eq_getElem_cons hj, he]
   rfl
def slices_Sort_int_int.f (l0 : List Int) : Option (List Int) := if l0.length < 4611686018427387904 then some (l0.mergeSort fun x y => decide (x ≤ y)) else none
set_option maxHeartbeats 8000000 in
set_option maxRecDepth 100000 in
theorem slices_Sort_int_int.calls (P0_ : Nat → Prop) (u9000_ : Value) (l0 : List Int) (r0 : List Int) (w0 w : World) (hB : Below w0.heap.size w0 w) (ho0 : Kd.R (Kd.int .i64) 3 w w0.heap.size P0_ u9000_ l0) (h : slices_Sort_int_int.f l0 = some r0) :
  Calls Try.prog 37 #[u9000_] w fun e w' => e = .returned (.tuple #[]) ∧ Kd.R (Kd.int .i64) 3 w' w0.heap.size (fun k_ => (P0_ k_ ∨ w.heap.size ≤ k_)) u9000_ r0 ∧ Below w0.heap.size w0 w' ∧ Kept w w' (fun k_ => P0_ k_) := by
 unfold slices_Sort_int_int.f at h
 by_cases hs : l0.length < 4611686018427387904
 ·
  rw [if_pos hs] at h; obtain rfl := Option.some.inj h; clear h; have hR := ho0; obtain ⟨hok, inner, ⟨hlen, hr⟩, hreps⟩ := ho0
  rcases hr with ⟨hv, h0⟩ | ⟨g, cap, cur, hv, hb, hh, hn, hcap, hsz, htk⟩
  ·
   subst hv; obtain rfl : l0 = [] := List.eq_nil_of_length_eq_zero h0; refine Calls.mono (show Calls Try.prog 37 #[.slice none 0 0] w _ from Go.Proofs.Any.slices_Sort_int_none slices_Sort_int_int_lays none 0 w) ?_; rintro e w' ⟨rfl, rfl⟩; rw [List.mergeSort_nil]; exact ⟨rfl, Kd.R_nil _ _ _ _ _, hB, Kept.refl _ _⟩
  ·
   subst hv; obtain ⟨hH, hg, -, -⟩ := slices_Sort_int_int.holds hR; refine Calls.mono (show Calls Try.prog 37 #[.slice (some ⟨g, 0, none⟩) l0.length cap] w _ from Go.Proofs.Any.slices_Sort_int slices_Sort_int_int_lays g 0 cap l0 w hH hg hs) ?_; rintro e w' ⟨rfl, n, os, rfl⟩; exact ⟨rfl, slices_Sort_int_int.left hR hB n os (l0.mergeSort fun x y => decide (x ≤ y)) (List.length_mergeSort _) l0.length (Nat.le_refl _) _ (by rw [List.take_of_length_le (by rw [List.length_mergeSort]; exact Nat.le_refl _)])⟩
 ·
  rw [if_neg hs] at h
  cases h
section
open Go.Shelf
def slices_Compact_int_int_lays_ren : Go.Shelf.Ren := ⟨fun | 20 => 38 | n => n, fun | 22 => 70 | 3 => 3 | 4 => 4 | 0 => 0 | n => n, fun | n => n⟩
theorem slices_Compact_int_int_lays : Go.Proofs.Lays2.n20 Try.prog slices_Compact_int_int_lays_ren := {
 mixed := by kernel_rfl
 f20 := Try.func38.trans (congrArg some (by kernel_rfl))
 t0 := Try.underlying0
 a0 := Try.isAgg0
 z0 := Try.sizeOf0
 v0 := Try.zeroValue0
 t3 := Try.underlying3
 a3 := Try.isAgg3
 z3 := Try.sizeOf3
 v3 := Try.zeroValue3
 t4 := Try.underlying4
 a4 := Try.isAgg4
 z4 := Try.sizeOf4
 v4 := Try.zeroValue4
 t22 := Try.underlying70
 a22 := Try.isAgg70
 z22 := Try.sizeOf70
 v22 := Try.zeroValue70
 i3 := by kernel_rfl }
end
theorem slices_Compact_int_int.holds {e : Nat} {w : World} {base : Nat} {ok : Nat → Prop} {g n cap : Nat} {l : List Int} (ho : Kd.R (Kd.int .i64) e w base ok (.slice (some ⟨g, 0, none⟩) n cap) l) :
  Go.Sort.Holds (Value.int .i64) w g 0 l.toArray ∧ g < w.heap.size ∧ n = l.length ∧ n ≤ cap := by
 obtain ⟨hok, inner, ⟨hlen, hr⟩, hreps⟩ := ho
 rcases hr with ⟨hv, _⟩ | ⟨g', cap', cur, hv, hb, hh, hn, _, hs, htk⟩
 · cases hv
 ·
  cases hv
  have hin : ∀ j, j < l.length → cur[j]? = some (.int .i64 (l[j]!)) := by
   intro j hj; have h1 := hreps.2 j l[j]! (by rw [List.getElem?_eq_getElem hj]; simp [hj]); have h2 : (inner.drop (j * 1)).take 1 = [.int .i64 l[j]!] := h1; have h3 : inner[j]? = some (.int .i64 l[j]!) := by
    have h4 := congrArg (fun l => l[0]?) h2
    simpa [List.getElem?_take, List.getElem?_drop] using h4
   rw [← htk, List.getElem?_take_of_lt (by show j < l.length * 1; omega)] at h3
   simpa using h3
  exact ⟨fun j hj => by
   have hj' : j < l.length := by simpa using hj
   rw [Nat.zero_add]; refine ⟨?_, kF_ hh j⟩; rw [kC_ hh, hin j hj']
   simp [hj'], kL_ hh, rfl, hn⟩
theorem slices_Compact_int_int.left {e : Nat} {w0 w : World} {ok : Nat → Prop} {g n cap : Nat} {l : List Int} (ho : Kd.R (Kd.int .i64) e w w0.heap.size ok (.slice (some ⟨g, 0, none⟩) n cap) l)
  (hB : Below w0.heap.size w0 w) (q : Nat) (os : Array Obj) (dd : List Int) (hsz : dd.length = l.length) (m : Nat) (hm : m ≤ l.length) (fl : List Int) (hfl : fl = dd.take m) :
  Kd.R (Kd.int .i64) e (Go.Sort.grow (Go.Sort.putRow (Value.int .i64) (Go.Sort.ahead w q) g 0 dd.toArray) os) w0.heap.size (fun k_ => (ok k_ ∨ w.heap.size ≤ k_)) (.slice (some ⟨g, 0, none⟩) m cap) fl ∧ Below w0.heap.size w0 (Go.Sort.grow (Go.Sort.putRow (Value.int .i64) (Go.Sort.ahead w q) g 0 dd.toArray) os) ∧ Kept w (Go.Sort.grow (Go.Sort.putRow (Value.int .i64) (Go.Sort.ahead w q) g 0 dd.toArray) os) (fun k_ => ok k_) := by
 obtain ⟨hok, inner, ⟨hlen, hr⟩, hreps⟩ := ho
 rcases hr with ⟨hv, _⟩ | ⟨g', cap', cur, hv, hb, hh, hn, hcap, hsz2, htk⟩
 · cases hv
 ·
  cases hv
  have hg : ok g := hok g (by simp [Value.ownBlock]); have hfm : fl.length = m := by rw [hfl, List.length_take]; omega
  have hlt := kL_ hh; have hw : (Go.Sort.grow (Go.Sort.putRow (Value.int .i64) (Go.Sort.ahead w q) g 0 dd.toArray) os).heap[g]? = some (.cells (Go.Sort.putCells (Value.int .i64) 0 dd.toArray cur) e (0, 0)) := by
   show ((w.heap.modify g (Go.Sort.onCells _)) ++ os)[g]? = _
   rw [Array.getElem?_append_left (by simpa using hlt), Array.getElem?_modify, if_pos rfl, hh]
   rfl
  have ho : ∀ i, i < w.heap.size → g ≠ i → (Go.Sort.grow (Go.Sort.putRow (Value.int .i64) (Go.Sort.ahead w q) g 0 dd.toArray) os).heap[i]? = w.heap[i]? := fun i hi hne => by
   show ((w.heap.modify g (Go.Sort.onCells _)) ++ os)[i]? = _
   rw [Array.getElem?_append_left (by simpa using hi), Array.getElem?_modify, if_neg hne]
  have hz : w.heap.size ≤ (Go.Sort.grow (Go.Sort.putRow (Value.int .i64) (Go.Sort.ahead w q) g 0 dd.toArray) os).heap.size := by
   show _ ≤ ((w.heap.modify g (Go.Sort.onCells _)) ++ os).size
   simp
  have hcs : cur.size = cap := by have h_ : cur.size = cap * 1 := hsz2; omega
  refine ⟨⟨fun k_ hk_ => .inl (hok k_ hk_), fl.map (Value.int .i64), ⟨by show (fl.map _).length = fl.length * 1; simp, .inr ⟨g, cap, _, by rw [hfm], hb, hw, by omega, hcap, by show _ = cap * 1; simp [Go.Sort.putCells, hcs], ?_⟩⟩, by show (fl.map _).length = fl.length * 1; simp, fun j p hp => ?_⟩, ⟨hB.os, hB.tape, hB.output, Nat.le_trans hB.size hz, fun i hi => by rw [ho i (nT_ hi hB.size) (by omega)]; exact hB.block i hi⟩, hz, fun i hi hne => ho i hi (fun e_ => hne (by rw [← e_]; exact hg))⟩
  ·
   show List.take (fl.length * 1) _ = _
   rw [Nat.mul_one]
   apply List.ext_getElem?
   intro i
   by_cases hi : i < fl.length
   ·
    have h1 : i < cur.size := by omega
    have h2 : i < dd.length := by omega
    have h3 : dd[i]? = fl[i]? := by rw [hfl, List.getElem?_take_of_lt (by omega)]
    have h4 : dd[i] = fl[i] := by
     have h5 := List.getElem?_eq_getElem h2; rw [h3, List.getElem?_eq_getElem hi] at h5; exact (Option.some.inj h5).symm
    rw [List.getElem?_take_of_lt hi]
    simp [Go.Sort.putCells, h1, h2, hi]
    exact h4
   · rw [List.getElem?_eq_none (by simp; omega), List.getElem?_eq_none (by simpa using hi)]
  ·
   obtain ⟨hj, he⟩ := List.getElem?_eq_some_iff.1 hp
   show ((fl.map (Value.int .i64)).drop (j * 1)).take 1 = [.int .i64 p]
   rw [Nat.mul_one, ← List.map_drop, List.drop_eq_getElem_cons hj, he]
   rfl
def slices_Compact_int_int.f (l0 : List Int) : Option (List Int) := if l0.length < 4611686018427387904 then some (Go.Lib.compact l0) else none
set_option maxHeartbeats 8000000 in
set_option maxRecDepth 100000 in
theorem slices_Compact_int_int.calls (P0_ : Nat → Prop) (u9000_ : Value) (l0 : List Int) (r : List Int) (w0 w : World) (hB : Below w0.heap.size w0 w) (ho0 : Kd.R (Kd.int .i64) 3 w w0.heap.size P0_ u9000_ l0) (h : slices_Compact_int_int.f l0 = some r) :
  Calls Try.prog 38 #[u9000_] w fun e w' => ∃ v0_ : Value, e = .returned (v0_) ∧ Kd.R (Kd.int .i64) 3 w' w0.heap.size (fun k_ => (P0_ k_ ∨ w.heap.size ≤ k_)) v0_ r ∧ Below w0.heap.size w0 w' ∧ Kept w w' (fun k_ => P0_ k_) := by
 unfold slices_Compact_int_int.f at h
 by_cases hs : l0.length < 4611686018427387904
 ·
  rw [if_pos hs] at h; obtain rfl := Option.some.inj h; clear h; have hR := ho0; obtain ⟨hok, inner, ⟨hlen, hr⟩, hreps⟩ := ho0
  rcases hr with ⟨hv, h0⟩ | ⟨g, cap, cur, hv, hb, hh, hn, hcap, hsz, htk⟩
  ·
   subst hv; obtain rfl : l0 = [] := List.eq_nil_of_length_eq_zero h0; refine Calls.mono (show Calls Try.prog 38 #[.slice none 0 0] w _ from Go.Proofs.Any.slices_Compact_int_empty slices_Compact_int_int_lays none 0 w) ?_; rintro e w' ⟨rfl, rfl⟩; rw [show Go.Lib.compact ([] : List Int) = [] from rfl]; exact ⟨_, rfl, Kd.R_nil _ _ _ _ _, hB, Kept.refl _ _⟩
  ·
   subst hv; obtain ⟨hH, hg, -, hc⟩ := slices_Compact_int_int.holds hR; refine Calls.mono (show Calls Try.prog 38 #[.slice (some ⟨g, 0, none⟩) l0.length cap] w _ from Go.Proofs.Any.slices_Compact_int slices_Compact_int_int_lays g 0 cap l0 w hH (by omega) hc) ?_; rintro e w' ⟨rfl, q, rfl⟩; have hle := Go.Lib.compact_length_le l0; have gn : ∀ W : World, W = Go.Sort.grow W #[] := fun W => by
    cases W
    simp [Go.Sort.grow]
   have key := slices_Compact_int_int.left hR hB q #[] (Go.Lib.compact l0 ++ List.replicate (l0.length - (Go.Lib.compact l0).length) 0) (by simp; omega) (Go.Lib.compact l0).length hle _ (by rw [List.take_append_of_le_length (Nat.le_refl _), List.take_length]); rw [← gn] at key; exact ⟨_, rfl, key⟩
 ·
  rw [if_neg hs] at h
  cases h
end Go.Proofs.Ytgpfjmkmopjfbaa.Q
