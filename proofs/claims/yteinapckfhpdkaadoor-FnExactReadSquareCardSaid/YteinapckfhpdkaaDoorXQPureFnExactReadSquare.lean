-- Trimmed by a program.
import Derived.Test.YteinapckfhpdkaaDoorXQ0
import Derived.Test.YteinapckfhpdkaaDoorXQHSlab
import Derived.Test.YteinapckfhpdkaaDoorXQ8
import Derived.Test.YteinapckfhpdkaaDoorXQ1
import Derived.Test.YteinapckfhpdkaaDoorXQ4
import Derived.Test.YteinapckfhpdkaaDoorXQ2
import Derived.Test.YteinapckfhpdkaaDoorXQ3
import Derived.Test.YteinapckfhpdkaaDoorXQ13
import Derived.Test.YteinapckfhpdkaaDoorXQ11
import Derived.Test.YteinapckfhpdkaaDoorXQ10
import Derived.Test.YteinapckfhpdkaaDoorXQ12
import Derived.Test.YteinapckfhpdkaaDoorXQ9
import Derived.Test.YteinapckfhpdkaaDoorXQHSquare
import Derived.Test.YteinapckfhpdkaaDoorXQ5
import Derived.Test.YteinapckfhpdkaaDoorXQ14
import Derived.Test.YteinapckfhpdkaaDoorXQ15
import Derived.Test.YteinapckfhpdkaaDoorXQ6
import Derived.Test.YteinapckfhpdkaaDoorXQRsA
import Derived.Test.YteinapckfhpdkaaDoorXQ7
import Derived.Lib.ItoaMem
import Derived.Lib.ParseIntB
import Derived.Lib.Split
import Derived.Lib.IndexBytes
import Derived.Lib.IndexLaws
import Derived.Lib.IndexMore
import Derived.Test.YteinapckfhpdkaaDoorXQ16
import Derived.Test.YteinapckfhpdkaaDoorXQLawReadSquare
import Derived.Test.YteinapckfhpdkaaDoorXQOpn
namespace Go.Proofs.YteinapckfhpdkaaDoor.Q
open Go.RowKit Go.Proofs.YteinapckfhpdkaaDoorW.PrintWords Go.Proofs.YteinapckfhpdkaaDoorW.PrintLast Go.Proofs.YteinapckfhpdkaaDoorW.PrintMore
theorem w64 {x : Int} (h0 : -9223372036854775808 ≤ x) (h1 : x ≤ 9223372036854775807) : wrap64 x = x := by
 unfold wrap64
 omega
theorem w64_succ {i : Nat} (h : i ≤ 4611686018427387904) : wrap64 ((i : Int) + 1) = ((i + 1 : Nat) : Int) := by
 rw [w64 (by omega) (by omega)]
 omega
theorem ge0 (i : Nat) : (0 : Int) ≤ (i : Int) := Int.natCast_nonneg i
theorem Ev.ite_pos {α : Type} {c : Prop} [Decidable c] {f g : Nat → Option α} {r : α} (hc : c) (h : Ev f r) : Ev (fun k => if c then f k else g k) r := Ev.congr (fun _ => if_pos hc) h
theorem Ev.ite_neg {α : Type} {c : Prop} [Decidable c] {f g : Nat → Option α} {r : α} (hc : ¬ c) (h : Ev g r) : Ev (fun k => if c then f k else g k) r := Ev.congr (fun _ => if_neg hc) h
theorem Ev.call {α β : Type} {o : Option α} {f : Nat → α → Option β} {a : α} {r : β} (h : o = some a) (k : Ev (fun n => f n a) r) : Ev (fun n => o.bind (f n)) r := Ev.bind (g := fun _ => o) ⟨0, fun _ _ => h⟩ k
theorem Ev.eq_ {α : Type} {g : Nat → Option α} {a b : α} (h : Ev g a) (e : a = b) : Ev g b := e ▸ h
def loopV {σ ρ : Type} (c : Nat → σ → Bool) (f : Nat → σ → σ) (e : Nat → σ → ρ) (z : σ → ρ) : Nat → Nat → σ → ρ
 | 0, _, s => z s
 | d + 1, i, s => if c i s = true then loopV c f e z d (i + 1) (f i s) else e i s
theorem Ev.loop {σ ρ : Type} {L : Nat → σ → Nat → Option ρ} (n : Nat) (c : Nat → σ → Bool) (f : Nat → σ → σ) (e : Nat → σ → ρ) (z : σ → ρ) (Inv : Nat → σ → Prop)
  (hgo : ∀ i s, i < n → Inv i s → c i s = true → Inv (i + 1) (f i s) ∧ ∀ r, Ev (fun k => L k (f i s) (i + 1)) r → Ev (fun k => L k s i) r)
  (hout : ∀ i s, i < n → Inv i s → c i s = false → Ev (fun k => L k s i) (e i s))
  (hend : ∀ s, Inv n s → Ev (fun k => L k s n) (z s)) :
  ∀ d i s, i + d = n → Inv i s → Ev (fun k => L k s i) (loopV c f e z d i s) := by
 intro d
 induction d with
 | zero =>
  intro i s hi hs
  obtain rfl : i = n := by omega
  exact hend s hs
 | succ d ih =>
  intro i s hi hs
  unfold loopV
  by_cases hc : c i s = true
  ·
   rw [if_pos hc]
   obtain ⟨h1, h2⟩ := hgo i s (by omega) hs hc
   exact h2 _ (ih (i + 1) (f i s) (by omega) h1)
  ·
   rw [if_neg hc]
   exact hout i s (by omega) hs (by simpa using hc)
theorem loopV_const {σ ρ : Type} {c : Nat → σ → Bool} {f : Nat → σ → σ} {e : Nat → σ → ρ} {z : σ → ρ} {r : ρ} (hc : ∀ i s, c i s = true) (hz : ∀ s, z s = r) : ∀ d i s, loopV c f e z d i s = r
 | 0, _, s => hz s
 | d + 1, i, s => by
  unfold loopV
  rw [if_pos (hc i s)]
  exact loopV_const hc hz d (i + 1) (f i s)
theorem Ev.run {σ ρ : Type} {L : Nat → σ → Nat → Option ρ} (n : Nat) (f : Nat → σ → σ) (Inv : Nat → σ → Prop) (r : ρ)
  (hgo : ∀ i s, i < n → Inv i s → Inv (i + 1) (f i s) ∧ ∀ r, Ev (fun k => L k (f i s) (i + 1)) r → Ev (fun k => L k s i) r)
  (hend : ∀ s, Inv n s → Ev (fun k => L k s n) r) {d i : Nat} {s : σ} (hi : i + d = n) (hs : Inv i s) : Ev (fun k => L k s i) r := by
 have h := Ev.loop (L := L) n (fun _ _ => true) f (fun _ _ => r) (fun _ => r) Inv (fun i s hi hs _ => hgo i s hi hs) (fun _ _ _ _ h => by cases h) hend d i s hi hs
 rwa [loopV_const (fun _ _ => rfl) (fun _ => rfl)] at h
theorem Ev.all {α ρ : Type} {L : Nat → Nat → Option ρ} (l : List α) (p : α → Bool) (re rf : ρ)
  (hgo : ∀ i (h : i < l.length), p l[i] = true → ∀ r, Ev (fun k => L k (i + 1)) r → Ev (fun k => L k i) r)
  (hout : ∀ i (h : i < l.length), p l[i] = false → Ev (fun k => L k i) rf)
  (hend : Ev (fun k => L k l.length) re) : Ev (fun k => L k 0) (if l.all p = true then re else rf) := by
 have key : ∀ d i, i + d = l.length → Ev (fun k => L k i) (if (l.drop i).all p = true then re else rf) := by
  intro d
  induction d with
  | zero =>
   intro i hi
   obtain rfl : i = l.length := by omega
   simpa using hend
  | succ d ih =>
   intro i hi
   have hlt : i < l.length := by omega
   rw [List.drop_eq_getElem_cons hlt, List.all_cons]
   by_cases hp : p l[i] = true
   ·
    rw [hp, Bool.true_and]
    exact hgo i hlt hp _ (ih (i + 1) (by omega))
   ·
    have hp' : p l[i] = false := by simpa using hp
    rw [hp', Bool.false_and, if_neg (by decide)]
    exact hout i hlt hp'
 have h := key l.length 0 (by omega)
 simpa using h
theorem Ev.if_ {α : Type} {g : Nat → Option α} {c : Prop} [Decidable c] {a b : α} (h1 : c → Ev g a) (h2 : ¬ c → Ev g b) : Ev g (if c then a else b) := by
 by_cases h : c
 · rw [if_pos h]; exact h1 h
 · rw [if_neg h]; exact h2 h
theorem take_set_succ {α : Type} {s l : List α} {i : Nat} (hl : s.length = l.length) (hi : i < l.length) (ht : s.take i = l.take i) : (s.set i l[i]).take (i + 1) = l.take (i + 1) := by
 rw [List.take_succ_eq_append_getElem (by simpa [hl] using hi), List.take_succ_eq_append_getElem hi, List.take_set_of_le (Nat.le_refl _), ht]
 simp
def findFrom {α : Type} (p : α → Bool) : Nat → List α → Int
 | _, [] => -1
 | i, x :: xs => if p x = true then (i : Int) else findFrom p (i + 1) xs
theorem findFrom_ge {α : Type} (p : α → Bool) : ∀ (l : List α) (i : Nat), decide (findFrom p i l ≥ 0) = l.any p
 | [], i => by simp [findFrom]
 | x :: xs, i => by
  unfold findFrom
  by_cases hp : p x = true
  · simp [hp]
  · simp [hp, findFrom_ge p xs (i + 1)]
theorem Ev.find {α : Type} {L : Nat → Nat → Option Int} (l : List α) (p : α → Bool)
  (hgo : ∀ i (h : i < l.length), p l[i] = false → ∀ r, Ev (fun k => L k (i + 1)) r → Ev (fun k => L k i) r)
  (hout : ∀ i (h : i < l.length), p l[i] = true → Ev (fun k => L k i) (i : Int))
  (hend : Ev (fun k => L k l.length) (-1)) : Ev (fun k => L k 0) (findFrom p 0 l) := by
 have key : ∀ d i, i + d = l.length → Ev (fun k => L k i) (findFrom p i (l.drop i)) := by
  intro d
  induction d with
  | zero =>
   intro i hi
   obtain rfl : i = l.length := by omega
   simpa [findFrom] using hend
  | succ d ih =>
   intro i hi
   have hlt : i < l.length := by omega
   rw [List.drop_eq_getElem_cons hlt]
   unfold findFrom
   by_cases hp : p l[i] = true
   ·
    rw [if_pos hp]
    exact hout i hlt hp
   ·
    have hp' : p l[i] = false := by simpa using hp
    rw [if_neg hp]
    exact hgo i hlt hp' _ (ih (i + 1) (by omega))
 simpa using key l.length 0 (by omega)
end Go.Proofs.YteinapckfhpdkaaDoor.Q

namespace Go.Proofs.YteinapckfhpdkaaDoor.Q
open Go.RowKit Go.Proofs.YteinapckfhpdkaaDoorW.PrintWords Go.Proofs.YteinapckfhpdkaaDoorW.PrintLast Go.Proofs.YteinapckfhpdkaaDoorW.PrintMore
set_option linter.unusedSimpArgs false
abbrev Sl := S36
theorem rdI_get {l : List S36} {i : Nat} (h : i < l.length) : rd_T36 l (i : Int) = l[i] := by
 unfold rd_T36
 rw [Int.toNat_natCast, List.getD_eq_getElem?_getD, List.getElem?_eq_getElem h]
 rfl
theorem eqSlab_refl (a b c d : Int) : laws_eqSlab.f a b c d a b c d = some true := by simp [laws_eqSlab.f]
theorem eqSlabs (l : List S36) (h : l.length ≤ 4611686018427387904) : Ev (fun k => laws_eqSlabS.f k l l) true := by
 unfold laws_eqSlabS.f
 refine Ev.ite_pos rfl ?_
 refine Ev.run (L := fun k (_ : Unit) (i : Nat) => laws_eqSlabS.l0 k l l i) l.length (fun _ s => s) (fun _ _ => True) true ?_ ?_ (d := l.length) (i := 0) (s := ()) (by omega) trivial
 ·
  rintro i s hi _
  refine ⟨trivial, fun r hr => Ev.step (fun k => laws_eqSlabS.l0.eq_2 _ _ _ _) ?_⟩
  refine Ev.ite_pos (by omega) (Ev.ite_pos (ge0 _) (Ev.ite_pos (by omega) (Ev.call (eqSlab_refl _ _ _ _) (Ev.ite_pos rfl ?_))))
  rw [w64_succ (by omega)]
  exact hr
 ·
  intro s _
  exact Ev.step (fun k => laws_eqSlabS.l0.eq_2 _ _ _ _) (Ev.ite_neg (by omega) (Ev.now true))
end Go.Proofs.YteinapckfhpdkaaDoor.Q

namespace Go.Proofs.YteinapckfhpdkaaDoor.Q
open Go.RowKit Go.Proofs.YteinapckfhpdkaaDoorW.PrintWords Go.Proofs.YteinapckfhpdkaaDoorW.PrintLast Go.Proofs.YteinapckfhpdkaaDoorW.PrintMore
def inB (a b c : Int) : Bool := decide (b ≤ a ∧ a ≤ c)
theorem within_val (a b c : Int) : impl_within.f a b c = some (inB a b c) := by
 unfold impl_within.f inB
 by_cases h : b ≤ a <;> simp [h]
theorem l00In_val (a b c : Int) : spec_l00In.f a b c = some (inB a b c) := by
 unfold spec_l00In.f inB
 by_cases h : b ≤ a <;> simp [h]
theorem inB_iff {a b c : Int} : inB a b c = true ↔ b ≤ a ∧ a ≤ c := by simp [inB]
theorem inB_no {a b c : Int} : inB a b c = false ↔ ¬ (b ≤ a ∧ a ≤ c) := by simp [inB]
end Go.Proofs.YteinapckfhpdkaaDoor.Q

namespace Go.Proofs.YteinapckfhpdkaaDoor.Q
open Go.RowKit Go.Proofs.YteinapckfhpdkaaDoorW.PrintWords Go.Proofs.YteinapckfhpdkaaDoorW.PrintLast Go.Proofs.YteinapckfhpdkaaDoorW.PrintMore
set_option linter.unusedVariables false
set_option linter.unusedSimpArgs false
abbrev Sq := S25
theorem rdQ (q : Sq) : rd_T25 [q] 0 = q := rfl
theorem one_pos (q : Sq) : (0 : Int) < (([q] : List Sq).length : Int) := by simp
def small (a : Int) : Prop := -128 ≤ a ∧ a ≤ 127
def smallS (s : Sl) : Prop := small s.f0 ∧ small s.f1 ∧ small s.f2 ∧ small s.f3
theorem small_w {a : Int} (h : small a) : wrap64 a = a := w64 (by have := h.1; omega) (by have := h.2; omega)
theorem i8w {a : Int} (h : small a) : IntKind.i8.wrap a = a := by
 obtain ⟨h0, h1⟩ := h
 unfold IntKind.wrap
 have e : (2 ^ IntKind.i8.bits : Int) = 256 := rfl
 have e2 : (2 ^ (IntKind.i8.bits - 1) : Int) = 128 := rfl
 have e3 : IntKind.i8.signed = true := rfl
 rw [e, e2, e3]
 simp only [Bool.true_and]
 by_cases hn : 0 ≤ a
 · rw [Int.emod_eq_of_lt hn (by omega), if_neg (by simp; omega)]
 ·
  have hm : a % 256 = a + 256 := by omega
  rw [hm, if_pos (by simp; omega)]
  omega
def lies (W H : Int) (s : Sl) : Bool := decide (0 ≤ s.f0 ∧ 0 ≤ s.f1 ∧ 1 ≤ s.f2 ∧ 1 ≤ s.f3 ∧ s.f0 + s.f2 ≤ W ∧ s.f1 + s.f3 ≤ H)
def before (a b : Sl) : Bool := decide (a.f1 < b.f1 ∨ a.f1 = b.f1 ∧ a.f0 < b.f0)
def inside (y x : Int) (s : Sl) : Bool := decide (s.f0 ≤ x ∧ x < s.f0 + s.f2 ∧ s.f1 ≤ y ∧ y < s.f1 + s.f3)
def meets (s t : Sl) : Bool := decide (s.f0 < t.f0 + t.f2 ∧ t.f0 < s.f0 + s.f2 ∧ s.f1 < t.f1 + t.f3 ∧ t.f1 < s.f1 + s.f3)
theorem lies_val (q : Sq) (s : Sl) (hq : small q.f0 ∧ small q.f1) (hs : smallS s) : spec_l01Lies.f [q] s.f0 s.f1 s.f2 s.f3 = some (lies q.f0 q.f1 s) := by
 obtain ⟨h0, h1, h2, h3⟩ := hs
 unfold spec_l01Lies.f lies
 rw [rdQ, small_w h0, small_w h1, small_w h2, small_w h3, small_w hq.1, small_w hq.2, w64 (x := s.f0 + s.f2) (by have := h0.1; have := h2.1; omega) (by have := h0.2; have := h2.2; omega), w64 (x := s.f1 + s.f3) (by have := h1.1; have := h3.1; omega) (by have := h1.2; have := h3.2; omega)]
 by_cases c0 : s.f0 < 0
 · rw [if_pos c0, decide_eq_false (by omega)]
 ·
  rw [if_neg c0]
  by_cases c1 : s.f1 < 0
  · rw [if_pos c1, decide_eq_false (by omega)]
  ·
   rw [if_neg c1]
   by_cases c2 : s.f2 < 1
   · rw [if_pos c2, decide_eq_false (by omega)]
   ·
    rw [if_neg c2]
    by_cases c3 : s.f3 < 1
    · rw [if_pos c3, decide_eq_false (by omega)]
    ·
     rw [if_neg c3, if_pos (one_pos q)]
     by_cases c4 : s.f0 + s.f2 ≤ q.f0
     ·
      rw [if_pos c4]
      congr 1
      exact decide_eq_decide.2 ⟨fun h => ⟨by omega, by omega, by omega, by omega, c4, h⟩, fun h => h.2.2.2.2.2⟩
     · rw [if_neg c4, decide_eq_false (by omega)]
theorem before_val (a b : Sl) : spec_l01Before.f a.f0 a.f1 a.f2 a.f3 b.f0 b.f1 b.f2 b.f3 = some (before a b) := by
 unfold spec_l01Before.f before
 by_cases h : a.f1 < b.f1
 · rw [if_pos h, decide_eq_true (Or.inl h)]
 ·
  rw [if_neg h]
  by_cases h2 : a.f1 = b.f1
  ·
   rw [if_pos h2]
   congr 1
   exact decide_eq_decide.2 ⟨fun h3 => Or.inr ⟨h2, h3⟩, fun h3 => by rcases h3 with h3 | h3 <;> omega⟩
  · rw [if_neg h2, decide_eq_false (by omega)]
theorem edge_val (a : Int) : spec_l01Edge.f a = some (inB a 1 12) := by
 unfold spec_l01Edge.f
 rw [l00In_val]
 rfl
def layX (i y : Int) : Nat → Int → List Int → List Int × Bool
 | 0, _, g => (g, true)
 | d + 1, x, g => if rd g (y * 12 + x) = 0 then layX i y d (x + 1) (g.set (y * 12 + x).toNat (i + 1)) else (g, false)
def layY (i x0 : Int) (w : Nat) : Nat → Int → List Int → List Int × Bool
 | 0, _, g => (g, true)
 | d + 1, y, g => if (layX i y w x0 g).2 = true then layY i x0 w d (y + 1) (layX i y w x0 g).1 else ((layX i y w x0 g).1, false)
def laySlab (i : Int) (s : Sl) (g : List Int) : List Int × Bool := layY i s.f0 s.f2.toNat s.f3.toNat s.f1 g
def rdS (l : List Sl) (i : Int) : Sl := rd_T36 l i
def layAll (W H : Int) (l : List Sl) : Nat → Nat → List Int → List Int × Bool
 | 0, _, g => (g, true)
 | d + 1, i, g => if (lies W H (rdS l i) && (decide (i = 0) || before (rdS l ((i : Int) - 1)) (rdS l i))) = true then
   (if (laySlab i (rdS l i) g).2 = true then layAll W H l d (i + 1) (laySlab i (rdS l i) g).1 else ((laySlab i (rdS l i) g).1, false)) else (g, false)
def grid0 : List Int := List.replicate 144 0
def layV (q : Sq) : List Int × Bool := if (inB q.f0 1 12 && inB q.f1 1 12 && decide (q.f2.length ≤ 60)) = true then layAll q.f0 q.f1 q.f2 q.f2.length 0 grid0 else (grid0, false)
theorem layX_len (i y : Int) : ∀ d x g, (layX i y d x g).1.length = g.length
 | 0, _, _ => rfl
 | d + 1, x, g => by
  unfold layX
  split
  · rw [layX_len i y d, List.length_set]
  · rfl
theorem layY_len (i x0 : Int) (w : Nat) : ∀ d y g, (layY i x0 w d y g).1.length = g.length
 | 0, _, _ => rfl
 | d + 1, y, g => by
  unfold layY
  split
  · rw [layY_len i x0 w d, layX_len]
  · exact layX_len _ _ _ _ _
theorem layAll_len (W H : Int) (l : List Sl) : ∀ d i g, (layAll W H l d i g).1.length = g.length
 | 0, _, _ => rfl
 | d + 1, i, g => by
  unfold layAll
  split
  ·
   split
   ·
    rw [layAll_len W H l d]
    exact layY_len _ _ _ _ _ _
   · exact layY_len _ _ _ _ _ _
  · rfl
theorem layV_len (q : Sq) : (layV q).1.length = 144 := by
 unfold layV
 split
 ·
  rw [layAll_len]
  simp [grid0]
 · simp [grid0]
def smallQ (q : Sq) : Prop := small q.f0 ∧ small q.f1 ∧ q.f2.length ≤ 1048576 ∧ ∀ s ∈ q.f2, smallS s
theorem smallQ.at {q : Sq} (h : smallQ q) {i : Nat} (hi : i < q.f2.length) : smallS (rdS q.f2 (i : Int)) := by
 unfold rdS
 rw [rdI_get hi]
 exact h.2.2.2 _ (List.getElem_mem _)
theorem lay2 (q : Sq) (i : Nat) (y : Int) (g0 : List Int) (s0 s1 s2 s3 : Int) (r : List Int × Bool) (hi : i ≤ 1048576) (hg0 : g0.length = 144) (hy : 0 ≤ y ∧ y < 12) (hs : small s0 ∧ 0 ≤ s0 ∧ 1 ≤ s2 ∧ s0 + s2 ≤ 12) :
  ∀ (d : Nat) (x : Int) (g : List Int), 0 ≤ x → x + (d : Int) = s0 + s2 → g.length = 144 →
   ((layX i y d x g).2 = true → Ev (fun k => spec_l01Lay.l1 k [q] (i : Int) (y + 1) g0 (layX i y d x g).1 s0 s1 s2 s3) r) →
   ((layX i y d x g).2 = false → r = ((layX i y d x g).1, false)) →
   Ev (fun k => spec_l01Lay.l2 k [q] (i : Int) y x g0 g s0 s1 s2 s3) r := by
 obtain ⟨hs0, hs1, hs2, hs3⟩ := hs
 have ew : IntKind.i8.wrap (s0 + s2) = s0 + s2 := i8w ⟨by omega, by omega⟩
 intro d
 induction d with
 | zero =>
  intro x g hx hd hg h1 h2
  refine Ev.step (fun k => spec_l01Lay.l2.eq_2 _ _ _ _ _ _ _ _ _ _ _) ?_
  rw [ew, i8w (a := y + 1) ⟨by omega, by omega⟩]
  exact Ev.ite_neg (by omega) (h1 rfl)
 | succ d ih =>
  intro x g hx hd hg h1 h2
  refine Ev.step (fun k => spec_l01Lay.l2.eq_2 _ _ _ _ _ _ _ _ _ _ _) ?_
  rw [ew, i8w (a := x + 1) ⟨by omega, by omega⟩]
  refine Ev.ite_pos (by omega) (Ev.ite_pos hy.1 (Ev.ite_pos hy.2 (Ev.ite_pos hx (Ev.ite_pos (by omega) (Ev.ite_pos (by omega) ?_)))))
  by_cases hc : rd g (y * 12 + x) = 0
  ·
   have e : layX i y (d + 1) x g = layX i y d (x + 1) (g.set (y * 12 + x).toNat (i + 1)) := by rw [layX, if_pos hc]
   rw [e] at h1 h2
   rw [w64_succ (i := i) (by omega), show ((i + 1 : Nat) : Int) = (i : Int) + 1 by omega]
   exact Ev.ite_pos hc (ih (x + 1) _ (by omega) (by omega) (by rw [List.length_set]; exact hg) h1 h2)
  ·
   have e : layX i y (d + 1) x g = (g, false) := by rw [layX, if_neg hc]
   rw [e] at h2
   rw [h2 rfl]
   exact Ev.ite_neg hc (Ev.ite_pos hg (Ev.ite_pos hg0 (Ev.now _)))
theorem lay1 (q : Sq) (i : Nat) (g0 : List Int) (s : Sl) (r : List Int × Bool) (hi : i ≤ 1048576) (hg0 : g0.length = 144) (hl : lies 12 12 s = true) :
  ∀ (d : Nat) (y : Int) (g : List Int), 0 ≤ y → y + (d : Int) = s.f1 + s.f3 → g.length = 144 →
   ((layY i s.f0 s.f2.toNat d y g).2 = true → Ev (fun k => spec_l01Lay.l0 k [q] ((i + 1 : Nat) : Int) g0 (layY i s.f0 s.f2.toNat d y g).1) r) →
   ((layY i s.f0 s.f2.toNat d y g).2 = false → r = ((layY i s.f0 s.f2.toNat d y g).1, false)) →
   Ev (fun k => spec_l01Lay.l1 k [q] (i : Int) y g0 g s.f0 s.f1 s.f2 s.f3) r := by
 have hl' := of_decide_eq_true hl
 have ew : IntKind.i8.wrap (s.f1 + s.f3) = s.f1 + s.f3 := i8w ⟨by omega, by omega⟩
 intro d
 induction d with
 | zero =>
  intro y g hy hd hg h1 h2
  refine Ev.step (fun k => spec_l01Lay.l1.eq_2 _ _ _ _ _ _ _ _ _ _) ?_
  rw [ew, w64_succ (i := i) (by omega)]
  exact Ev.ite_neg (by omega) (h1 rfl)
 | succ d ih =>
  intro y g hy hd hg h1 h2
  refine Ev.step (fun k => spec_l01Lay.l1.eq_2 _ _ _ _ _ _ _ _ _ _) ?_
  rw [ew]
  refine Ev.ite_pos (by omega) (lay2 q i y g0 s.f0 s.f1 s.f2 s.f3 r hi hg0 ⟨hy, by omega⟩ ⟨⟨by omega, by omega⟩, by omega, by omega, by omega⟩ s.f2.toNat s.f0 g (by omega) (by omega) hg ?_ ?_)
  ·
   intro hx
   have e : layY i s.f0 s.f2.toNat (d + 1) y g = layY i s.f0 s.f2.toNat d (y + 1) (layX i y s.f2.toNat s.f0 g).1 := by rw [layY, if_pos hx]
   rw [e] at h1 h2
   exact ih (y + 1) _ (by omega) (by omega) (by rw [layX_len]; exact hg) h1 h2
  ·
   intro hx
   have e : layY i s.f0 s.f2.toNat (d + 1) y g = ((layX i y s.f2.toNat s.f0 g).1, false) := by rw [layY, if_neg (by simp [hx])]
   rw [e] at h2
   exact h2 rfl
theorem lay0 (q : Sq) (g0 : List Int) (hq : smallQ q) (hW : q.f0 ≤ 12) (hH : q.f1 ≤ 12) (hg0 : g0.length = 144) :
  ∀ (d i : Nat) (g : List Int), i + d = q.f2.length → g.length = 144 → Ev (fun k => spec_l01Lay.l0 k [q] (i : Int) g0 g) (layAll q.f0 q.f1 q.f2 d i g) := by
 obtain ⟨q0, q1, q2, q3⟩ := hq
 intro d
 induction d with
 | zero =>
  intro i g hi hg
  refine Ev.step (fun k => spec_l01Lay.l0.eq_2 _ _ _ _ _) ?_
  rw [rdQ]
  exact Ev.ite_pos (one_pos q) (Ev.ite_neg (by omega) (Ev.ite_pos hg (Ev.ite_pos hg0 (Ev.now _))))
 | succ d ih =>
  intro i g hi hg
  have hs := smallQ.at ⟨q0, q1, q2, q3⟩ (show i < q.f2.length by omega)
  have hv := lies_val q (rdS q.f2 (i : Int)) ⟨q0, q1⟩ hs
  refine Ev.step (fun k => spec_l01Lay.l0.eq_2 _ _ _ _ _) ?_
  rw [rdQ]
  refine Ev.ite_pos (one_pos q) (Ev.ite_pos (by omega) (Ev.ite_pos (by omega) (Ev.call hv ?_)))
  have no : layAll q.f0 q.f1 q.f2 (d + 1) i g = (g, false) → Ev (fun k => spec_l01Lay.j2 k [q] (i : Int) true g0 g (rdS q.f2 (i : Int)).f0 (rdS q.f2 (i : Int)).f1 (rdS q.f2 (i : Int)).f2 (rdS q.f2 (i : Int)).f3) (layAll q.f0 q.f1 q.f2 (d + 1) i g) := by
   intro e
   rw [e]
   exact Ev.step (fun k => spec_l01Lay.j2.eq_2 _ _ _ _ _ _ _ _ _ _) (Ev.ite_pos rfl (Ev.ite_pos hg (Ev.ite_pos hg0 (Ev.now _))))
  by_cases hl : lies q.f0 q.f1 (rdS q.f2 (i : Int)) = true
  ·
   refine Ev.ite_pos hl ?_
   have hl12 : lies 12 12 (rdS q.f2 (i : Int)) = true := by
    have h := of_decide_eq_true hl
    exact decide_eq_true (by omega)
   have h12 := of_decide_eq_true hl12
   have yes : (decide (i = 0) || before (rdS q.f2 ((i : Int) - 1)) (rdS q.f2 (i : Int))) = true → Ev (fun k => spec_l01Lay.j2 k [q] (i : Int) false g0 g (rdS q.f2 (i : Int)).f0 (rdS q.f2 (i : Int)).f1 (rdS q.f2 (i : Int)).f2 (rdS q.f2 (i : Int)).f3) (layAll q.f0 q.f1 q.f2 (d + 1) i g) := by
    intro hb
    have e : layAll q.f0 q.f1 q.f2 (d + 1) i g = (if (laySlab i (rdS q.f2 i) g).2 = true then layAll q.f0 q.f1 q.f2 d (i + 1) (laySlab i (rdS q.f2 i) g).1 else ((laySlab i (rdS q.f2 i) g).1, false)) := by
     rw [layAll, if_pos (by rw [hl, hb]; rfl)]
    rw [e]
    refine Ev.step (fun k => spec_l01Lay.j2.eq_2 _ _ _ _ _ _ _ _ _ _) (Ev.ite_neg (by decide) ?_)
    refine lay1 q i g0 (rdS q.f2 (i : Int)) _ (by omega) hg0 hl12 (rdS q.f2 (i : Int)).f3.toNat (rdS q.f2 (i : Int)).f1 g (by omega) (by omega) hg ?_ ?_
    ·
     intro hx
     have hx' : (laySlab i (rdS q.f2 i) g).2 = true := hx
     rw [if_pos hx']
     exact ih (i + 1) _ (by omega) (by rw [layY_len]; exact hg)
    ·
     intro hx
     have hx' : ¬ (laySlab i (rdS q.f2 i) g).2 = true := by simp [show (laySlab i (rdS q.f2 i) g).2 = false from hx]
     rw [if_neg hx']
     rfl
   by_cases h0 : (i : Int) > 0
   ·
    rw [w64 (x := (i : Int) - 1) (by omega) (by omega)]
    refine Ev.ite_pos h0 (Ev.ite_pos (by omega) (Ev.ite_pos (by omega) (Ev.call (before_val (rdS q.f2 ((i : Int) - 1)) (rdS q.f2 (i : Int))) ?_)))
    by_cases hb : before (rdS q.f2 ((i : Int) - 1)) (rdS q.f2 (i : Int)) = true
    ·
     rw [hb]
     exact yes (by rw [hb, Bool.or_true])
    ·
     have hb' : before (rdS q.f2 ((i : Int) - 1)) (rdS q.f2 (i : Int)) = false := by simpa using hb
     rw [hb']
     exact no (by rw [layAll, if_neg (by rw [hl, hb']; simp; omega)])
   · exact Ev.ite_neg h0 (yes (by rw [decide_eq_true (show i = 0 by omega)]; rfl))
  · exact Ev.ite_neg hl (no (by rw [layAll, if_neg (by rw [show lies q.f0 q.f1 (rdS q.f2 (i : Int)) = false by simpa using hl]; simp)]))
theorem lay_val (q : Sq) (hq : smallQ q) : Ev (fun k => spec_l01Lay.f k [q]) (layV q) := by
 unfold spec_l01Lay.f
 have hz : arrZ 144 = grid0 := rfl
 have hz2 : grid0.length = 144 := by simp [grid0]
 rw [rdQ, small_w hq.1, small_w hq.2.1, hz]
 have no : layV q = (grid0, false) → Ev (fun k => spec_l01Lay.j0 k [q] true grid0 grid0) (layV q) := by
  intro e
  rw [e]
  exact Ev.step (fun k => spec_l01Lay.j0.eq_2 _ _ _ _ _) (Ev.ite_pos rfl (Ev.ite_pos hz2 (Ev.ite_pos hz2 (Ev.now _))))
 refine Ev.ite_pos (one_pos q) (Ev.call (edge_val _) ?_)
 by_cases h0 : inB q.f0 1 12 = true
 ·
  refine Ev.ite_pos h0 (Ev.call (edge_val _) ?_)
  by_cases h1 : inB q.f1 1 12 = true
  ·
   refine Ev.ite_pos h1 ?_
   by_cases h2 : (q.f2.length : Int) > 60
   ·
    rw [decide_eq_true h2]
    exact no (by unfold layV; rw [if_neg (by simp; intro _ _; omega)])
   ·
    rw [decide_eq_false h2]
    have e : layV q = layAll q.f0 q.f1 q.f2 q.f2.length 0 grid0 := by unfold layV; rw [if_pos (by rw [h0, h1]; simp; omega)]
    rw [e]
    exact Ev.step (fun k => spec_l01Lay.j0.eq_2 _ _ _ _ _) (Ev.ite_neg (by decide) (lay0 q grid0 hq (inB_iff.1 h0).2 (inB_iff.1 h1).2 hz2 q.f2.length 0 grid0 (by omega) hz2))
  · exact Ev.ite_neg h1 (no (by unfold layV; rw [if_neg (by simp [h1])]))
 · exact Ev.ite_neg h0 (no (by unfold layV; rw [if_neg (by simp [h0])]))
end Go.Proofs.YteinapckfhpdkaaDoor.Q

namespace Go.Proofs.YteinapckfhpdkaaDoor.Q
open Go.RowKit Go.Proofs.YteinapckfhpdkaaDoorW.PrintWords Go.Proofs.YteinapckfhpdkaaDoorW.PrintLast Go.Proofs.YteinapckfhpdkaaDoorW.PrintMore
set_option linter.unusedVariables false
set_option linter.unusedSimpArgs false
def cellAt (g : List Int) (y x : Int) : Int := rd g (y * 12 + x)
theorem rd_set_if {g : List Int} {i j : Int} (hi : 0 ≤ i) (hj : 0 ≤ j) (hl : i < g.length) (v : Int) : rd (g.set i.toNat v) j = if j = i then v else rd g j := by
 obtain ⟨n, rfl⟩ := Int.eq_ofNat_of_zero_le hi
 obtain ⟨m, rfl⟩ := Int.eq_ofNat_of_zero_le hj
 unfold rd
 simp only [Int.toNat_natCast, List.getD_eq_getElem?_getD, List.getElem?_set]
 by_cases h : m = n
 ·
  subst h
  rw [if_pos rfl, if_pos rfl, if_pos (by omega)]
  rfl
 · rw [if_neg (fun e => h e.symm), if_neg (by omega)]
theorem cell_set {g : List Int} {y x y' x' : Int} (hg : g.length = 144) (hy : 0 ≤ y ∧ y < 12) (hx : 0 ≤ x ∧ x < 12) (hy' : 0 ≤ y' ∧ y' < 12) (hx' : 0 ≤ x' ∧ x' < 12) (v : Int) : cellAt (g.set (y * 12 + x).toNat v) y' x' = if y' = y ∧ x' = x then v else cellAt g y' x' := by
 unfold cellAt
 rw [rd_set_if (by omega) (by omega) (by omega)]
 by_cases h : y' = y ∧ x' = x
 · rw [if_pos h, if_pos (by omega)]
 · rw [if_neg h, if_neg (by omega)]
theorem layX_spec (i y : Int) (hi : 0 ≤ i) (hy : 0 ≤ y ∧ y < 12) : ∀ (d : Nat) (x : Int) (g : List Int), 0 ≤ x → x + (d : Int) ≤ 12 → g.length = 144 →
  ((layX i y d x g).2 = true ↔ ∀ x', x ≤ x' → x' < x + d → cellAt g y x' = 0) ∧
  ((layX i y d x g).2 = true → ∀ y' x', 0 ≤ y' ∧ y' < 12 → 0 ≤ x' ∧ x' < 12 → cellAt (layX i y d x g).1 y' x' = if y' = y ∧ x ≤ x' ∧ x' < x + d then i + 1 else cellAt g y' x')
 | 0, x, g, hx, hd, hg => by
  refine ⟨⟨fun _ x' h1 h2 => by omega, fun _ => rfl⟩, fun _ y' x' _ _ => ?_⟩
  rw [if_neg (by omega)]
  rfl
 | d + 1, x, g, hx, hd, hg => by
  unfold layX
  by_cases hc : rd g (y * 12 + x) = 0
  ·
   rw [if_pos hc]
   obtain ⟨h1, h2⟩ := layX_spec i y hi hy d (x + 1) (g.set (y * 12 + x).toNat (i + 1)) (by omega) (by omega) (by rw [List.length_set]; exact hg)
   refine ⟨⟨fun h x' a b => ?_, fun h => h1.2 fun x' a b => ?_⟩, fun h y' x' hy' hx' => ?_⟩
   ·
    by_cases e : x' = x
    · rw [e]; exact hc
    ·
     have := h1.1 h x' (by omega) (by omega)
     rwa [cell_set hg hy (by omega) hy (by omega), if_neg (by omega)] at this
   ·
    rw [cell_set hg hy (by omega) hy (by omega), if_neg (by omega)]
    exact h x' (by omega) (by omega)
   ·
    rw [h2 h y' x' hy' hx', cell_set hg hy (by omega) hy' hx']
    by_cases e : y' = y ∧ x' = x
    · rw [if_pos e, if_neg (by omega), if_pos (by omega)]
    ·
     rw [if_neg e]
     by_cases e2 : y' = y ∧ x + 1 ≤ x' ∧ x' < x + 1 + (d : Int)
     · rw [if_pos e2, if_pos (by omega)]
     · rw [if_neg e2, if_neg (by omega)]
  ·
   rw [if_neg hc]
   refine ⟨⟨fun h => (by cases h), fun h => absurd (h x (by omega) (by omega)) hc⟩, fun h => (by cases h)⟩
theorem layY_spec (i x0 : Int) (w : Nat) (hi : 0 ≤ i) (hx0 : 0 ≤ x0) (hw : x0 + (w : Int) ≤ 12) : ∀ (d : Nat) (y : Int) (g : List Int), 0 ≤ y → y + (d : Int) ≤ 12 → g.length = 144 →
  ((layY i x0 w d y g).2 = true ↔ ∀ y' x', y ≤ y' → y' < y + d → x0 ≤ x' → x' < x0 + w → cellAt g y' x' = 0) ∧
  ((layY i x0 w d y g).2 = true → ∀ y' x', 0 ≤ y' ∧ y' < 12 → 0 ≤ x' ∧ x' < 12 → cellAt (layY i x0 w d y g).1 y' x' = if (y ≤ y' ∧ y' < y + d) ∧ x0 ≤ x' ∧ x' < x0 + w then i + 1 else cellAt g y' x')
 | 0, y, g, hy, hd, hg => by
  refine ⟨⟨fun _ y' x' h1 h2 => by omega, fun _ => rfl⟩, fun _ y' x' _ _ => ?_⟩
  rw [if_neg (by omega)]
  rfl
 | d + 1, y, g, hy, hd, hg => by
  unfold layY
  obtain ⟨a1, a2⟩ := layX_spec i y hi ⟨hy, by omega⟩ w x0 g hx0 hw hg
  by_cases hc : (layX i y w x0 g).2 = true
  ·
   rw [if_pos hc]
   have a3 := a1.1 hc
   have a4 := a2 hc
   obtain ⟨h1, h2⟩ := layY_spec i x0 w hi hx0 hw d (y + 1) (layX i y w x0 g).1 (by omega) (by omega) (by rw [layX_len]; exact hg)
   refine ⟨⟨fun h y' x' b1 b2 b3 b4 => ?_, fun h => h1.2 fun y' x' b1 b2 b3 b4 => ?_⟩, fun h y' x' hy' hx' => ?_⟩
   ·
    by_cases e : y' = y
    · rw [e]; exact a3 x' b3 b4
    ·
     have := h1.1 h y' x' (by omega) (by omega) b3 b4
     rwa [a4 y' x' (by omega) (by omega), if_neg (by omega)] at this
   ·
    rw [a4 y' x' (by omega) (by omega), if_neg (by omega)]
    exact h y' x' (by omega) (by omega) b3 b4
   ·
    rw [h2 h y' x' hy' hx', a4 y' x' hy' hx']
    by_cases e : y' = y ∧ x0 ≤ x' ∧ x' < x0 + (w : Int)
    · rw [if_pos e, if_neg (by omega), if_pos (by omega)]
    ·
     rw [if_neg e]
     by_cases e2 : (y + 1 ≤ y' ∧ y' < y + 1 + (d : Int)) ∧ x0 ≤ x' ∧ x' < x0 + (w : Int)
     · rw [if_pos e2, if_pos (by omega)]
     · rw [if_neg e2, if_neg (by omega)]
  ·
   rw [if_neg hc]
   refine ⟨⟨fun h => (by cases h), fun h => absurd (a1.2 fun x' b1 b2 => h y x' (by omega) (by omega) b1 b2) hc⟩, fun h => (by cases h)⟩
def coverAt (l : List Sl) (y x : Int) : Int := findFrom (inside y x) 0 l
theorem findFrom_snoc {α : Type} (p : α → Bool) (a : α) : ∀ (l : List α) (i : Nat), findFrom p i (l ++ [a]) = if findFrom p i l = -1 then (if p a = true then ((i + l.length : Nat) : Int) else -1) else findFrom p i l
 | [], i => by simp [findFrom]
 | x :: xs, i => by
  have e1 : findFrom p i (x :: xs) = if p x = true then (i : Int) else findFrom p (i + 1) xs := rfl
  show (if p x = true then (i : Int) else findFrom p (i + 1) (xs ++ [a])) = _
  rw [e1]
  by_cases h : p x = true
  · rw [if_pos h, if_pos h, if_neg (by omega)]
  · rw [if_neg h, if_neg h, findFrom_snoc p a xs (i + 1), List.length_cons, show i + 1 + xs.length = i + (xs.length + 1) by omega]
theorem findFrom_none {α : Type} (p : α → Bool) : ∀ (l : List α) (i : Nat), findFrom p i l = -1 ↔ ∀ a ∈ l, p a = false
 | [], i => by simp [findFrom]
 | x :: xs, i => by
  unfold findFrom
  by_cases h : p x = true
  ·
   rw [if_pos h]
   exact ⟨fun e => by omega, fun e => by have := e x (by simp); rw [h] at this; cases this⟩
  ·
   rw [if_neg h, findFrom_none p xs (i + 1)]
   exact ⟨fun e a ha => by rcases List.mem_cons.1 ha with rfl | ha; simpa using h; exact e a ha, fun e a ha => e a (by simp [ha])⟩
theorem findFrom_lo {α : Type} (p : α → Bool) : ∀ (l : List α) (i : Nat), findFrom p i l = -1 ∨ (i : Int) ≤ findFrom p i l ∧ findFrom p i l < i + l.length
 | [], i => Or.inl rfl
 | x :: xs, i => by
  unfold findFrom
  by_cases h : p x = true
  ·
   rw [if_pos h]
   exact Or.inr ⟨by omega, by simp; omega⟩
  ·
   rw [if_neg h]
   rcases findFrom_lo p xs (i + 1) with h1 | ⟨h1, h2⟩
   · exact Or.inl h1
   · exact Or.inr ⟨by omega, by simp; omega⟩
def sqC (W H : Int) (l : List Sl) (i : Nat) : Bool := lies W H (rdS l i) && !(l.take i).any (meets (rdS l i)) && (decide (i = 0) || before (rdS l ((i : Int) - 1)) (rdS l i))
def sqB (q : Sq) : Bool := inB q.f0 1 12 && inB q.f1 1 12 && decide (q.f2.length ≤ 60) && loopV (fun i (_ : Unit) => sqC q.f0 q.f1 q.f2 i) (fun _ s => s) (fun _ _ => false) (fun _ => true) q.f2.length 0 ()
theorem meets_iff {s t : Sl} (hs : lies 12 12 s = true) (ht : lies 12 12 t = true) : meets s t = true ↔ ∃ y x, inside y x s = true ∧ inside y x t = true := by
 have h1 := of_decide_eq_true hs
 have h2 := of_decide_eq_true ht
 unfold meets inside
 simp only [decide_eq_true_eq]
 constructor
 ·
  intro h
  by_cases a : s.f1 ≤ t.f1 <;> by_cases b : s.f0 ≤ t.f0
  · exact ⟨t.f1, t.f0, by omega, by omega⟩
  · exact ⟨t.f1, s.f0, by omega, by omega⟩
  · exact ⟨s.f1, t.f0, by omega, by omega⟩
  · exact ⟨s.f1, s.f0, by omega, by omega⟩
 ·
  rintro ⟨y, x, h, h'⟩
  omega
theorem lies12 {W H : Int} {s : Sl} (hW : W ≤ 12) (hH : H ≤ 12) (h : lies W H s = true) : lies 12 12 s = true := by
 have h := of_decide_eq_true h
 exact decide_eq_true (by omega)
def gridI (l : List Sl) (i : Nat) (g : List Int) : Prop := g.length = 144 ∧ (∀ s ∈ l.take i, lies 12 12 s = true) ∧ ∀ y x, 0 ≤ y ∧ y < 12 → 0 ≤ x ∧ x < 12 → cellAt g y x = coverAt (l.take i) y x + 1
theorem lay_step {l : List Sl} {i : Nat} {g : List Int} (hi : i < l.length) (hl : lies 12 12 (rdS l i) = true) (hg : gridI l i g) :
  (laySlab i (rdS l i) g).2 = !(l.take i).any (meets (rdS l i)) ∧ ((laySlab i (rdS l i) g).2 = true → gridI l (i + 1) (laySlab i (rdS l i) g).1) := by
 obtain ⟨h1, h2, h3⟩ := hg
 have hb := of_decide_eq_true hl
 obtain ⟨a1, a2⟩ := layY_spec i (rdS l i).f0 (rdS l i).f2.toNat (by omega) (by omega) (by omega) (rdS l i).f3.toNat (rdS l i).f1 g (by omega) (by omega) h1
 have ei : ∀ y' x', ((rdS l i).f1 ≤ y' ∧ y' < (rdS l i).f1 + ((rdS l i).f3.toNat : Int)) ∧ (rdS l i).f0 ≤ x' ∧ x' < (rdS l i).f0 + ((rdS l i).f2.toNat : Int) ↔ inside y' x' (rdS l i) = true := by
  intro y' x'
  unfold inside
  rw [decide_eq_true_eq]
  omega
 have hok : (laySlab i (rdS l i) g).2 = true ↔ ∀ t ∈ l.take i, ¬ meets (rdS l i) t = true := by
  show (layY _ _ _ _ _ _).2 = true ↔ _
  rw [a1]
  constructor
  ·
   intro h t ht hm
   obtain ⟨y, x, hs, hx⟩ := (meets_iff hl (h2 t ht)).1 hm
   have hin := (ei y x).2 hs
   have hyx : (0 ≤ y ∧ y < 12) ∧ 0 ≤ x ∧ x < 12 := by omega
   have h0 := h y x hin.1.1 hin.1.2 hin.2.1 hin.2.2
   rw [h3 y x hyx.1 hyx.2] at h0
   have hn := (findFrom_none (inside y x) (l.take i) 0).1 (by unfold coverAt at h0; omega) t ht
   rw [hx] at hn
   cases hn
  ·
   intro h y x b1 b2 b3 b4
   have hs := (ei y x).1 ⟨⟨b1, b2⟩, b3, b4⟩
   rw [h3 y x (by omega) (by omega)]
   have hn : coverAt (l.take i) y x = -1 := (findFrom_none _ _ 0).2 fun t ht => by
    by_cases hx : inside y x t = true
    · exact absurd ((meets_iff hl (h2 t ht)).2 ⟨y, x, hs, hx⟩) (h t ht)
    · simpa using hx
   omega
 refine ⟨?_, fun h => ⟨?_, ?_, fun y x hy hx => ?_⟩⟩
 ·
  by_cases h : (laySlab i (rdS l i) g).2 = true
  ·
   rw [h]
   have := hok.1 h
   symm
   rw [Bool.not_eq_true']
   rw [List.any_eq_false]
   exact this
  ·
   rw [show (laySlab i (rdS l i) g).2 = false by simpa using h]
   symm
   rw [Bool.not_eq_false']
   rw [List.any_eq_true]
   apply Classical.byContradiction
   intro hn
   exact h (hok.2 fun t ht hm => hn ⟨t, ht, hm⟩)
 ·
  unfold laySlab
  rw [layY_len]; exact h1
 ·
  intro s hs
  rw [List.take_succ_eq_append_getElem hi] at hs
  rcases List.mem_append.1 hs with hs | hs
  · exact h2 s hs
  ·
   obtain rfl := List.mem_singleton.1 hs
   have : rdS l i = l[i] := rdI_get hi
   rwa [this] at hl
 ·
  have e := a2 h y x hy hx
  show cellAt (layY _ _ _ _ _ _).1 y x = _
  rw [e, h3 y x hy hx]
  have er : rdS l i = l[i] := rdI_get hi
  unfold coverAt
  rw [List.take_succ_eq_append_getElem hi, findFrom_snoc, ← er, List.length_take, show min i l.length = i by omega]
  by_cases hin : inside y x (rdS l i) = true
  ·
   rw [if_pos ((ei y x).2 hin)]
   have h0 := a1.1 h y x ((ei y x).2 hin).1.1 ((ei y x).2 hin).1.2 ((ei y x).2 hin).2.1 ((ei y x).2 hin).2.2
   rw [h3 y x hy hx] at h0
   have hn : findFrom (inside y x) 0 (l.take i) = -1 := by unfold coverAt at h0; omega
   rw [if_pos hn, if_pos hin]
   omega
  ·
   rw [if_neg (fun h' => hin ((ei y x).1 h'))]
   by_cases hn : findFrom (inside y x) 0 (l.take i) = -1
   · rw [if_pos hn, if_neg hin, hn]
   · rw [if_neg hn]
theorem layAll_spec {W H : Int} (hW : W ≤ 12) (hH : H ≤ 12) (l : List Sl) : ∀ (d i : Nat) (g : List Int), i + d = l.length → gridI l i g →
  (layAll W H l d i g).2 = loopV (fun i (_ : Unit) => sqC W H l i) (fun _ s => s) (fun _ _ => false) (fun _ => true) d i () ∧ ((layAll W H l d i g).2 = true → gridI l l.length (layAll W H l d i g).1)
 | 0, i, g, hi, hg => by
  obtain rfl : i = l.length := by omega
  exact ⟨rfl, fun _ => hg⟩
 | d + 1, i, g, hi, hg => by
  unfold layAll loopV
  by_cases h1 : lies W H (rdS l i) = true
  ·
   obtain ⟨a1, a2⟩ := lay_step (by omega) (lies12 hW hH h1) hg
   by_cases h2 : (decide (i = 0) || before (rdS l ((i : Int) - 1)) (rdS l i)) = true
   ·
    rw [if_pos (by rw [h1, h2]; rfl)]
    by_cases h3 : (laySlab i (rdS l i) g).2 = true
    ·
     rw [if_pos h3, if_pos (by unfold sqC; rw [h1, h2, ← a1, h3]; rfl)]
     exact layAll_spec hW hH l d (i + 1) _ (by omega) (a2 h3)
    ·
     have h3' : (laySlab i (rdS l i) g).2 = false := by simpa using h3
     rw [if_neg h3, if_neg (by unfold sqC; rw [← a1, h3']; simp)]
     exact ⟨rfl, fun h => by cases h⟩
   ·
    have h2' : (decide (i = 0) || before (rdS l ((i : Int) - 1)) (rdS l i)) = false := by simpa using h2
    rw [if_neg (by rw [h2']; simp), if_neg (by unfold sqC; rw [h2']; simp)]
    exact ⟨rfl, fun h => by cases h⟩
  ·
   have h1' : lies W H (rdS l i) = false := by simpa using h1
   rw [if_neg (by rw [h1']; simp), if_neg (by unfold sqC; rw [h1']; simp)]
   exact ⟨rfl, fun h => by cases h⟩
theorem grid0_cell (y x : Int) : cellAt grid0 y x = 0 := by
 unfold cellAt rd grid0
 rw [List.getD_eq_getElem?_getD, List.getElem?_replicate]
 split <;> rfl
theorem layV_spec (q : Sq) : (layV q).2 = sqB q ∧ (sqB q = true → gridI q.f2 q.f2.length (layV q).1) := by
 unfold layV sqB
 by_cases h0 : (inB q.f0 1 12 && inB q.f1 1 12 && decide (q.f2.length ≤ 60)) = true
 ·
  rw [if_pos h0, h0, Bool.true_and]
  rw [Bool.and_eq_true, Bool.and_eq_true] at h0
  have h1 := layAll_spec (inB_iff.1 h0.1.1).2 (inB_iff.1 h0.1.2).2 q.f2 q.f2.length 0 grid0 (by omega) ⟨by simp [grid0], fun s hs => by simp at hs, fun y x _ _ => by rw [grid0_cell]; simp [coverAt, findFrom]⟩
  refine ⟨h1.1, fun h => h1.2 ?_⟩
  rw [h1.1]
  exact h
 ·
  have h0' : (inB q.f0 1 12 && inB q.f1 1 12 && decide (q.f2.length ≤ 60)) = false := by simpa using h0
  rw [if_neg h0, h0', Bool.false_and]
  exact ⟨rfl, fun h => by cases h⟩
end Go.Proofs.YteinapckfhpdkaaDoor.Q

namespace Go.Proofs.YteinapckfhpdkaaDoor.Q
open Go.RowKit Go.Proofs.YteinapckfhpdkaaDoorW.PrintWords Go.Proofs.YteinapckfhpdkaaDoorW.PrintLast Go.Proofs.YteinapckfhpdkaaDoorW.PrintMore
set_option linter.unusedVariables false
set_option linter.unusedSimpArgs false
theorem isEdge_val (a : Int) : impl_isEdge.f a = some (inB a 1 12) := by
 unfold impl_isEdge.f
 rw [within_val]
 rfl
theorem isIn_val (q : Sq) (s : Sl) (hq : small q.f0 ∧ small q.f1) (hs : smallS s) (l : List Sl) : impl_Slab_isIn.f s.f0 s.f1 s.f2 s.f3 q.f0 q.f1 l = some (lies q.f0 q.f1 s) := by
 obtain ⟨h0, h1, h2, h3⟩ := hs
 unfold impl_Slab_isIn.f lies
 rw [small_w h0, small_w h1, small_w h2, small_w h3, small_w hq.1, small_w hq.2, w64 (x := s.f0 + s.f2) (by have := h0.1; have := h2.1; omega) (by have := h0.2; have := h2.2; omega), w64 (x := s.f1 + s.f3) (by have := h1.1; have := h3.1; omega) (by have := h1.2; have := h3.2; omega)]
 by_cases c2 : s.f2 ≥ 1
 ·
  rw [if_pos c2]
  by_cases c3 : s.f3 ≥ 1
  ·
   rw [if_pos c3]
   by_cases c0 : s.f0 ≥ 0
   ·
    rw [if_pos c0]
    by_cases c1 : s.f1 ≥ 0
    ·
     rw [if_pos c1]
     by_cases c4 : s.f0 + s.f2 ≤ q.f0
     ·
      rw [if_pos c4]
      congr 1
      exact decide_eq_decide.2 ⟨fun h => ⟨c0, c1, c2, c3, c4, h⟩, fun h => h.2.2.2.2.2⟩
     · rw [if_neg c4, decide_eq_false (by omega)]
    · rw [if_neg c1, decide_eq_false (by omega)]
   · rw [if_neg c0, decide_eq_false (by omega)]
  · rw [if_neg c3, decide_eq_false (by omega)]
 · rw [if_neg c2, decide_eq_false (by omega)]
theorem meets_val (s t : Sl) (hs : smallS s) (ht : smallS t) : impl_Slab_meets.f s.f0 s.f1 s.f2 s.f3 t.f0 t.f1 t.f2 t.f3 = some (meets s t) := by
 obtain ⟨h0, h1, h2, h3⟩ := hs
 obtain ⟨g0, g1, g2, g3⟩ := ht
 unfold impl_Slab_meets.f meets
 rw [small_w h0, small_w h1, small_w h2, small_w h3, small_w g0, small_w g1, small_w g2, small_w g3]
 unfold small at h0 h1 h2 h3 g0 g1 g2 g3
 rw [w64 (x := s.f0 + s.f2) (by omega) (by omega), w64 (x := s.f1 + s.f3) (by omega) (by omega), w64 (x := t.f0 + t.f2) (by omega) (by omega), w64 (x := t.f1 + t.f3) (by omega) (by omega)]
 by_cases c0 : s.f0 < t.f0 + t.f2
 ·
  rw [if_pos c0]
  by_cases c1 : t.f0 < s.f0 + s.f2
  ·
   rw [if_pos c1]
   by_cases c2 : s.f1 < t.f1 + t.f3
   ·
    rw [if_pos c2]
    congr 1
    exact decide_eq_decide.2 ⟨fun h => ⟨c0, c1, c2, h⟩, fun h => h.2.2.2⟩
   · rw [if_neg c2, decide_eq_false (by omega)]
  · rw [if_neg c1, decide_eq_false (by omega)]
 · rw [if_neg c0, decide_eq_false (by omega)]
def cmpI (a b : Int) : Int := if a < b then -1 else if a > b then 1 else 0
theorem cmp_val (a b : Int) : cmp_Compare_int8.f a b = some (cmpI a b) := by
 unfold cmp_Compare_int8.f cmp_isNaN_int8.f cmpI
 simp only [bne_self_eq_false, Option.bind_some]
 rw [if_neg (by decide), if_neg (by decide)]
 split
 · rfl
 · split <;> rfl
def cmpS (a b : Sl) : Int := if cmpI a.f1 b.f1 = 0 then cmpI a.f0 b.f0 else cmpI a.f1 b.f1
theorem or_val (a b : Int) : Ev (fun k => cmp_Or_int.f k [a, b]) (if a = 0 then b else a) := by
 unfold cmp_Or_int.f
 refine Ev.step (fun k => cmp_Or_int.l0.eq_2 _ _ _ _ _) (Ev.ite_pos (by simp) (Ev.ite_pos (by omega) (Ev.ite_pos (by simp) ?_)))
 have e0 : rd [a, b] 0 = a := rfl
 have e1 : rd [a, b] 1 = b := rfl
 rw [e0, w64 (x := (0 : Int) + 1) (by omega) (by omega), show (0 : Int) + 1 = 1 by omega]
 by_cases h : a = 0
 ·
  rw [if_pos h]
  refine Ev.ite_pos h (Ev.step (fun k => cmp_Or_int.l0.eq_2 _ _ _ _ _) (Ev.ite_pos (by simp) (Ev.ite_pos (by omega) (Ev.ite_pos (by simp) ?_))))
  rw [e1, w64 (x := (1 : Int) + 1) (by omega) (by omega), show (1 : Int) + 1 = 2 by omega]
  by_cases h1 : b = 0
  ·
   rw [h1]
   exact Ev.ite_pos rfl (Ev.step (fun k => cmp_Or_int.l0.eq_2 _ _ _ _ _) (Ev.ite_neg (by simp) (Ev.now _)))
  · exact Ev.ite_neg h1 (Ev.now _)
 ·
  rw [if_neg h]
  exact Ev.ite_neg h (Ev.now _)
theorem cmpS_val (a b : Sl) : Ev (fun k => impl_compareSlabs.f k a.f0 a.f1 a.f2 a.f3 b.f0 b.f1 b.f2 b.f3) (cmpS a b) := by
 unfold impl_compareSlabs.f
 refine Ev.call (a := (a.f0, a.f1)) rfl (Ev.call (a := (b.f0, b.f1)) rfl (Ev.bind (a := cmpS a b) ?_ (Ev.now _)))
 unfold impl_compareCells.f
 exact Ev.call (cmp_val _ _) (Ev.call (cmp_val _ _) (Ev.bind (or_val _ _) (Ev.now _)))
theorem cmpS_pos (a b : Sl) : cmpS a b > 0 ↔ before b a = true := by
 unfold cmpS cmpI before
 rw [decide_eq_true_eq]
 by_cases h1 : a.f1 < b.f1
 ·
  rw [if_pos h1, if_neg (by decide)]
  omega
 ·
  rw [if_neg h1]
  by_cases h2 : a.f1 > b.f1
  ·
   rw [if_pos h2, if_neg (by decide)]
   omega
  ·
   rw [if_neg h2, if_pos rfl]
   by_cases h3 : a.f0 < b.f0
   · rw [if_pos h3]; omega
   ·
    rw [if_neg h3]
    by_cases h4 : a.f0 > b.f0
    · rw [if_pos h4]; omega
    · rw [if_neg h4]; omega
theorem anyMeets (s : Sl) (l : List Sl) (hs : smallS s) (hl : l.length ≤ 1048576) (hm : ∀ t ∈ l, smallS t) : Ev (fun k => slices_ContainsFunc_impl_Slab_at_impl_Slab_meets.f k l s.f0 s.f1 s.f2 s.f3) (l.any (meets s)) := by
 unfold slices_ContainsFunc_impl_Slab_at_impl_Slab_meets.f
 refine Ev.bind (a := findFrom (meets s) 0 l) ?_ (Ev.eq_ (Ev.now _) (findFrom_ge _ l 0))
 unfold slices_IndexFunc_impl_Slab_at_impl_Slab_meets.f
 have one : ∀ i (h : i < l.length), impl_Slab_meets.f s.f0 s.f1 s.f2 s.f3 (rd_T36 l (i : Int)).f0 (rd_T36 l (i : Int)).f1 (rd_T36 l (i : Int)).f2 (rd_T36 l (i : Int)).f3 = some (meets s l[i]) := by
  intro i h
  rw [rdI_get h]
  exact meets_val s _ hs (hm _ (List.getElem_mem h))
 refine Ev.find (L := fun k i => slices_IndexFunc_impl_Slab_at_impl_Slab_meets.l0 k l (l.length : Int) (i : Int) s.f0 s.f1 s.f2 s.f3) l (meets s) ?_ ?_ ?_
 ·
  intro i hi hp r hr
  refine Ev.step (fun k => slices_IndexFunc_impl_Slab_at_impl_Slab_meets.l0.eq_2 _ _ _ _ _ _ _ _) (Ev.ite_pos (by omega) (Ev.ite_pos (by omega) (Ev.ite_pos (by omega) (Ev.call (one i hi) ?_))))
  rw [w64_succ (by omega), hp]
  exact Ev.ite_neg (by decide) hr
 ·
  intro i hi hp
  refine Ev.step (fun k => slices_IndexFunc_impl_Slab_at_impl_Slab_meets.l0.eq_2 _ _ _ _ _ _ _ _) (Ev.ite_pos (by omega) (Ev.ite_pos (by omega) (Ev.ite_pos (by omega) (Ev.call (one i hi) ?_))))
  rw [hp]
  exact Ev.ite_pos rfl (Ev.now _)
 · exact Ev.step (fun k => slices_IndexFunc_impl_Slab_at_impl_Slab_meets.l0.eq_2 _ _ _ _ _ _ _ _) (Ev.ite_neg (by omega) (Ev.now _))
theorem implLoop (q : Sq) (hq : smallQ q) (hW : q.f0 ≤ 12) (hH : q.f1 ≤ 12) : Ev (fun k => impl_ValidSquare.l0 k q.f2 (q.f2.length : Int) 0 q.f0 q.f1 q.f2) (loopV (fun i (_ : Unit) => sqC q.f0 q.f1 q.f2 i) (fun _ s => s) (fun _ _ => false) (fun _ => true) q.f2.length 0 ()) := by
 obtain ⟨q0, q1, q2, q3⟩ := hq
 have inn : ∀ i, i < q.f2.length → impl_Slab_isIn.f (rd_T36 q.f2 (i : Int)).f0 (rd_T36 q.f2 (i : Int)).f1 (rd_T36 q.f2 (i : Int)).f2 (rd_T36 q.f2 (i : Int)).f3 q.f0 q.f1 q.f2 = some (lies q.f0 q.f1 (rdS q.f2 i)) := fun i hi => isIn_val q (rdS q.f2 i) ⟨q0, q1⟩ (smallQ.at ⟨q0, q1, q2, q3⟩ hi) q.f2
 have anyy : ∀ i, i < q.f2.length → Ev (fun k => slices_ContainsFunc_impl_Slab_at_impl_Slab_meets.f k (q.f2.take ((i : Int)).toNat) (rd_T36 q.f2 (i : Int)).f0 (rd_T36 q.f2 (i : Int)).f1 (rd_T36 q.f2 (i : Int)).f2 (rd_T36 q.f2 (i : Int)).f3) ((q.f2.take i).any (meets (rdS q.f2 i))) := by
  intro i hi
  rw [Int.toNat_natCast]
  exact anyMeets (rdS q.f2 i) _ (smallQ.at ⟨q0, q1, q2, q3⟩ hi) (by rw [List.length_take]; omega) (fun t ht => q3 t (List.mem_of_mem_take ht))
 refine Ev.loop (L := fun k (_ : Unit) (i : Nat) => impl_ValidSquare.l0 k q.f2 (q.f2.length : Int) i q.f0 q.f1 q.f2) q.f2.length _ _ _ _ (fun i _ => ∀ s ∈ q.f2.take i, lies 12 12 s = true) ?_ ?_ ?_ q.f2.length 0 () (by omega) (by simp)
 ·
  rintro i s hi hI hc
  unfold sqC at hc
  rw [Bool.and_eq_true, Bool.and_eq_true, Bool.not_eq_true'] at hc
  obtain ⟨⟨c1, c2⟩, c3⟩ := hc
  refine ⟨?_, fun r hr => Ev.step (fun k => impl_ValidSquare.l0.eq_2 _ _ _ _ _ _ _) ?_⟩
  ·
   intro t ht
   rw [List.take_succ_eq_append_getElem hi] at ht
   rcases List.mem_append.1 ht with ht | ht
   · exact hI t ht
   ·
    obtain rfl := List.mem_singleton.1 ht
    have e : rdS q.f2 i = q.f2[i] := rdI_get hi
    rw [e] at c1
    exact lies12 hW hH c1
  ·
   refine Ev.ite_pos (by omega) (Ev.ite_pos (by omega) (Ev.ite_pos (by omega) (Ev.call (inn i hi) ?_)))
   rw [w64_succ (by omega)]
   refine Ev.ite_pos c1 (Ev.ite_pos (by omega) (Ev.bind (anyy i hi) ?_))
   rw [c2]
   refine Ev.ite_neg (by decide) ?_
   by_cases h0 : (i : Int) > 0
   ·
    rw [w64 (x := (i : Int) - 1) (by omega) (by omega)]
    refine Ev.ite_pos h0 (Ev.ite_pos (by omega) (Ev.ite_pos (by omega) (Ev.bind (cmpS_val (rdS q.f2 ((i : Int) - 1)) (rdS q.f2 i)) (Ev.ite_neg ?_ hr))))
    rw [cmpS_pos]
    have hb : before (rdS q.f2 ((i : Int) - 1)) (rdS q.f2 i) = true := by
     rw [decide_eq_false (by omega), Bool.false_or] at c3
     exact c3
    unfold before at hb ⊢
    rw [decide_eq_true_eq] at hb ⊢
    omega
   · exact Ev.ite_neg h0 hr
 ·
  rintro i s hi hI hc
  refine Ev.step (fun k => impl_ValidSquare.l0.eq_2 _ _ _ _ _ _ _) (Ev.ite_pos (by omega) (Ev.ite_pos (by omega) (Ev.ite_pos (by omega) (Ev.call (inn i hi) ?_))))
  unfold sqC at hc
  by_cases c1 : lies q.f0 q.f1 (rdS q.f2 i) = true
  ·
   refine Ev.ite_pos c1 (Ev.ite_pos (by omega) (Ev.bind (anyy i hi) ?_))
   by_cases c2 : (q.f2.take i).any (meets (rdS q.f2 i)) = true
   · exact Ev.ite_pos c2 (Ev.now _)
   ·
    have c2' : (q.f2.take i).any (meets (rdS q.f2 i)) = false := by simpa using c2
    rw [c1, c2', Bool.not_false, Bool.true_and, Bool.true_and, Bool.or_eq_false_iff, decide_eq_false_iff_not] at hc
    obtain ⟨hc0, hcb⟩ := hc
    refine Ev.ite_neg c2 (Ev.ite_pos (by omega) ?_)
    rw [w64 (x := (i : Int) - 1) (by omega) (by omega)]
    refine Ev.ite_pos (by omega) (Ev.ite_pos (by omega) (Ev.bind (cmpS_val (rdS q.f2 ((i : Int) - 1)) (rdS q.f2 i)) (Ev.ite_pos ?_ (Ev.now _))))
    rw [cmpS_pos]
    have em : rdS q.f2 ((i : Int) - 1) ∈ q.f2.take i := by
     have e : (i : Int) - 1 = ((i - 1 : Nat) : Int) := by omega
     have e2 : rdS q.f2 ((i - 1 : Nat) : Int) = q.f2[i - 1] := rdI_get (by omega)
     rw [e, e2, List.mem_take_iff_getElem]
     exact ⟨i - 1, by omega, rfl⟩
    have hp := of_decide_eq_true (hI _ em)
    have hs := of_decide_eq_true (lies12 hW hH c1)
    have hm : ¬ meets (rdS q.f2 i) (rdS q.f2 ((i : Int) - 1)) = true := by
     rw [List.any_eq_false] at c2'
     exact c2' _ em
    unfold meets at hm
    unfold before at hcb ⊢
    rw [decide_eq_true_eq] at hm ⊢
    rw [decide_eq_false_iff_not] at hcb
    omega
  · exact Ev.ite_neg c1 (Ev.now _)
 ·
  intro s _
  exact Ev.step (fun k => impl_ValidSquare.l0.eq_2 _ _ _ _ _ _ _) (Ev.ite_neg (by omega) (Ev.now _))
theorem implValid (q : Sq) (hq : smallQ q) : Ev (fun k => impl_ValidSquare.f k q.f0 q.f1 q.f2) (sqB q) := by
 unfold impl_ValidSquare.f
 rw [small_w hq.1, small_w hq.2.1]
 have no : sqB q = false → Ev (fun k => impl_ValidSquare.j0 k true q.f0 q.f1 q.f2) (sqB q) := by
  intro e
  rw [e]
  exact Ev.step (fun k => impl_ValidSquare.j0.eq_2 _ _ _ _ _) (Ev.ite_pos rfl (Ev.now _))
 refine Ev.call (isEdge_val _) ?_
 by_cases h0 : inB q.f0 1 12 = true
 ·
  refine Ev.ite_pos h0 (Ev.call (isEdge_val _) ?_)
  by_cases h1 : inB q.f1 1 12 = true
  ·
   refine Ev.ite_pos h1 ?_
   by_cases h2 : (q.f2.length : Int) > 60
   ·
    rw [decide_eq_true h2]
    exact no (by unfold sqB; rw [show decide (q.f2.length ≤ 60) = false from decide_eq_false (by omega)]; simp)
   ·
    rw [decide_eq_false h2]
    have e : sqB q = loopV (fun i (_ : Unit) => sqC q.f0 q.f1 q.f2 i) (fun _ s => s) (fun _ _ => false) (fun _ => true) q.f2.length 0 () := by unfold sqB; rw [h0, h1, show decide (q.f2.length ≤ 60) = true from decide_eq_true (by omega)]; simp
    rw [e]
    exact Ev.step (fun k => impl_ValidSquare.j0.eq_2 _ _ _ _ _) (Ev.ite_neg (by decide) (implLoop q hq (inB_iff.1 h0).2 (inB_iff.1 h1).2))
  · exact Ev.ite_neg h1 (no (by unfold sqB; rw [show inB q.f1 1 12 = false by simpa using h1]; simp))
 · exact Ev.ite_neg h0 (no (by unfold sqB; rw [show inB q.f0 1 12 = false by simpa using h0]; simp))
theorem eqSq (q : Sq) (h : q.f2.length ≤ 4611686018427387904) : Ev (fun k => laws_eqSquare.f k q.f0 q.f1 q.f2 q.f0 q.f1 q.f2) true := by
 unfold laws_eqSquare.f
 exact Ev.ite_pos rfl (Ev.ite_pos rfl (Ev.bind (eqSlabs _ h) (Ev.ite_pos rfl (Ev.now _))))
end Go.Proofs.YteinapckfhpdkaaDoor.Q

namespace Go.Proofs.YteinapckfhpdkaaDoor.Q
open Go.RowKit Go.Proofs.YteinapckfhpdkaaDoorW.PrintWords Go.Proofs.YteinapckfhpdkaaDoorW.PrintLast Go.Proofs.YteinapckfhpdkaaDoorW.PrintMore
set_option linter.unusedVariables false
set_option linter.unusedSimpArgs false
theorem specOk (q : Sq) (hq : smallQ q) : Ev (fun k => spec_l01Ok.f k [q]) (sqB q) := by
 unfold spec_l01Ok.f
 refine Ev.bind (lay_val q hq) (Ev.ite_pos (layV_len q) (Ev.eq_ (Ev.now _) (layV_spec q).1))
theorem sqB_edges {q : Sq} (h : sqB q = true) : (1 ≤ q.f0 ∧ q.f0 ≤ 12) ∧ (1 ≤ q.f1 ∧ q.f1 ≤ 12) ∧ q.f2.length ≤ 60 := by
 unfold sqB at h
 rw [Bool.and_eq_true, Bool.and_eq_true, Bool.and_eq_true, decide_eq_true_eq] at h
 exact ⟨inB_iff.1 h.1.1.1, inB_iff.1 h.1.1.2, h.1.2⟩
theorem sqB_grid {q : Sq} (h : sqB q = true) : gridI q.f2 q.f2.length (layV q).1 := (layV_spec q).2 h
theorem sqB_cell {q : Sq} (h : sqB q = true) {y x : Int} (hy : 0 ≤ y ∧ y < 12) (hx : 0 ≤ x ∧ x < 12) : cellAt (layV q).1 y x = coverAt q.f2 y x + 1 := by
 have h1 := (sqB_grid h).2.2 y x hy hx
 rwa [List.take_length] at h1
end Go.Proofs.YteinapckfhpdkaaDoor.Q

namespace Go.Proofs.YteinapckfhpdkaaDoor.Q
open Go.RowKit Go.Proofs.YteinapckfhpdkaaDoorW.PrintWords Go.Proofs.YteinapckfhpdkaaDoorW.PrintLast Go.Proofs.YteinapckfhpdkaaDoorW.PrintMore
set_option linter.unusedVariables false
set_option linter.unusedSimpArgs false
theorem covers_val (s : Sl) (x y : Int) (hs : smallS s) : impl_Slab_covers.f s.f0 s.f1 s.f2 s.f3 x y = some (inside y x s) := by
 obtain ⟨h0, h1, h2, h3⟩ := hs
 unfold impl_Slab_covers.f inside
 rw [small_w h0, small_w h1, small_w h2, small_w h3]
 unfold small at h0 h1 h2 h3
 rw [w64 (x := s.f0 + s.f2) (by omega) (by omega), w64 (x := s.f1 + s.f3) (by omega) (by omega)]
 by_cases c0 : x ≥ s.f0
 ·
  rw [if_pos c0]
  by_cases c1 : x < s.f0 + s.f2
  ·
   rw [if_pos c1]
   by_cases c2 : y ≥ s.f1
   ·
    rw [if_pos c2]
    congr 1
    exact decide_eq_decide.2 ⟨fun h => ⟨c0, c1, c2, h⟩, fun h => h.2.2.2⟩
   · rw [if_neg c2, decide_eq_false (by omega)]
  · rw [if_neg c1, decide_eq_false (by omega)]
 · rw [if_neg c0, decide_eq_false (by omega)]
theorem at_val (q : Sq) (hq : smallQ q) (x y : Int) : Ev (fun k => impl_Square_at.f k q.f0 q.f1 q.f2 x y) (coverAt q.f2 y x) := by
 unfold impl_Square_at.f coverAt
 refine Ev.bind (a := findFrom (inside y x) 0 q.f2) ?_ (Ev.now _)
 have hl : q.f2.length ≤ 1048576 := hq.2.2.1
 have hm := hq.2.2.2
 generalize q.f2 = l at *
 unfold slices_IndexFunc_impl_Slab_at_impl_Square_at_1.f
 have one : ∀ i (h : i < l.length), impl_Square_at_1.f (rd_T36 l (i : Int)).f0 (rd_T36 l (i : Int)).f1 (rd_T36 l (i : Int)).f2 (rd_T36 l (i : Int)).f3 [x] [y] = some (inside y x l[i]) := by
  intro i h
  rw [rdI_get h]
  unfold impl_Square_at_1.f
  rw [if_pos (by simp), if_pos (by simp), show rd [x] 0 = x from rfl, show rd [y] 0 = y from rfl, covers_val l[i] x y (hm _ (List.getElem_mem h))]
  rfl
 refine Ev.find (L := fun k i => slices_IndexFunc_impl_Slab_at_impl_Square_at_1.l0 k l (l.length : Int) (i : Int) [x] [y]) l (inside y x) ?_ ?_ ?_
 ·
  intro i hi hp r hr
  refine Ev.step (fun k => slices_IndexFunc_impl_Slab_at_impl_Square_at_1.l0.eq_2 _ _ _ _ _ _) (Ev.ite_pos (by omega) (Ev.ite_pos (by omega) (Ev.ite_pos (by omega) (Ev.call (one i hi) ?_))))
  rw [w64_succ (by omega), hp]
  exact Ev.ite_neg (by decide) hr
 ·
  intro i hi hp
  refine Ev.step (fun k => slices_IndexFunc_impl_Slab_at_impl_Square_at_1.l0.eq_2 _ _ _ _ _ _) (Ev.ite_pos (by omega) (Ev.ite_pos (by omega) (Ev.ite_pos (by omega) (Ev.call (one i hi) ?_))))
  rw [hp]
  exact Ev.ite_pos rfl (Ev.now _)
 · exact Ev.step (fun k => slices_IndexFunc_impl_Slab_at_impl_Square_at_1.l0.eq_2 _ _ _ _ _ _) (Ev.ite_neg (by omega) (Ev.now _))
end Go.Proofs.YteinapckfhpdkaaDoor.Q

namespace Go.Proofs.YteinapckfhpdkaaDoor.Q
open Go.RowKit Go.Proofs.YteinapckfhpdkaaDoorW.PrintWords Go.Proofs.YteinapckfhpdkaaDoorW.PrintLast Go.Proofs.YteinapckfhpdkaaDoorW.PrintMore
set_option linter.unusedVariables false
set_option linter.unusedSimpArgs false
def letterN (c : Int) : Int := if c < 26 then 97 + c else if c < 52 then 65 + c - 26 else 48 + c - 52
def chrN (q : Sq) (y x : Int) : Int := if 0 ≤ coverAt q.f2 y x then letterN (coverAt q.f2 y x) else 46
def rowN (q : Sq) (y : Nat) : Nat → Nat → List Int
 | 0, _ => []
 | d + 1, x => chrN q (y : Int) (x : Int) :: rowN q y d (x + 1)
def rowsN (q : Sq) (W : Nat) : Nat → Nat → List Int
 | 0, _ => []
 | d + 1, y => rowN q y W 0 ++ (10 :: rowsN q W d (y + 1))
def textN (q : Sq) : List Int := rowsN q q.f0.toNat q.f1.toNat 0
theorem strOfNums_app (a b : List Int) : strOfNums a ++ strOfNums b = strOfNums (a ++ b) := by
 apply ByteArray.ext
 rw [ByteArray.data_append]
 unfold strOfNums
 simp
theorem rowN_len (q : Sq) (y : Nat) : ∀ d x, (rowN q y d x).length = d
 | 0, _ => rfl
 | d + 1, x => by rw [rowN, List.length_cons, rowN_len q y d]
theorem letter_val (c : Int) (h0 : 0 ≤ c) (h1 : c < 60) : spec_l01Letter.f c = some (letterN c) := by
 unfold spec_l01Letter.f letterN
 by_cases a : c < 26
 ·
  rw [if_pos a, if_pos a, w64 (by omega) (by omega)]
  congr 1
  omega
 ·
  rw [if_neg a, if_neg a]
  by_cases b : c < 52
  ·
   rw [if_pos b, if_pos b, w64 (x := 65 + c) (by omega) (by omega), w64 (by omega) (by omega)]
   congr 1
   omega
  ·
   rw [if_neg b, if_neg b, w64 (x := 48 + c) (by omega) (by omega), w64 (by omega) (by omega)]
   congr 1
   omega
theorem letters_bt (c : Int) (h0 : 0 ≤ c) (h1 : c < 60) : bt (⟨#[97, 98, 99, 100, 101, 102, 103, 104, 105, 106, 107, 108, 109, 110, 111, 112, 113, 114, 115, 116, 117, 118, 119, 120, 121, 122, 65, 66, 67, 68, 69, 70, 71, 72, 73, 74, 75, 76, 77, 78, 79, 80, 81, 82, 83, 84, 85, 86, 87, 88, 89, 90, 48, 49, 50, 51, 52, 53, 54, 55]⟩ : ByteArray) c = letterN c := by
 obtain ⟨n, rfl⟩ := Int.eq_ofNat_of_zero_le h0
 have key : ∀ n : Fin 60, bt (⟨#[97, 98, 99, 100, 101, 102, 103, 104, 105, 106, 107, 108, 109, 110, 111, 112, 113, 114, 115, 116, 117, 118, 119, 120, 121, 122, 65, 66, 67, 68, 69, 70, 71, 72, 73, 74, 75, 76, 77, 78, 79, 80, 81, 82, 83, 84, 85, 86, 87, 88, 89, 90, 48, 49, 50, 51, 52, 53, 54, 55]⟩ : ByteArray) ((n.1 : Nat) : Int) = letterN ((n.1 : Nat) : Int) := by decide +kernel
 exact key ⟨n, by omega⟩
theorem cover_lt (q : Sq) (hv : sqB q = true) (y x : Int) : coverAt q.f2 y x < 60 := by
 obtain ⟨-, -, hl⟩ := sqB_edges hv
 have hlo := findFrom_lo (inside y x) q.f2 0
 unfold coverAt
 omega
theorem specRow (q : Sq) (hv : sqB q = true) (W : Nat) (hW : q.f0 = W) (hW2 : W ≤ 12) (y : Nat) (hy : y < 12) (r : ByteArray) : ∀ (d x : Nat) (a : List Int), x + d = W → a.length + d ≤ 1000 →
  Ev (fun k => spec_l01Text.l0 k [q] (strOfNums (a ++ (rowN q y d x ++ [10]))) ((y + 1 : Nat) : Int) (layV q).1) r → Ev (fun k => spec_l01Text.l1 k [q] (strOfNums a) (y : Int) (x : Int) (layV q).1) r := by
 have hg := layV_len q
 intro d
 induction d with
 | zero =>
  intro x a hx ha h
  refine Ev.step (fun k => spec_l01Text.l1.eq_2 _ _ _ _ _ _) (Ev.ite_pos (one_pos q) ?_)
  rw [rdQ, i8w (a := (y : Int) + 1) ⟨by omega, by omega⟩]
  refine Ev.ite_neg (by omega) (Ev.ite_pos (by rw [strOfNums_size]; omega) ?_)
  rw [show (⟨#[10]⟩ : ByteArray) = strOfNums [10] from rfl, strOfNums_app]
  rw [rowN, List.nil_append] at h
  exact h
 | succ d ih =>
  intro x a hx ha h
  have hce := sqB_cell hv (y := (y : Int)) (x := (x : Int)) (by omega) (by omega)
  unfold cellAt at hce
  have hlt := cover_lt q hv (y : Int) (x : Int)
  refine Ev.step (fun k => spec_l01Text.l1.eq_2 _ _ _ _ _ _) (Ev.ite_pos (one_pos q) ?_)
  rw [rdQ, i8w (a := (x : Int) + 1) ⟨by omega, by omega⟩, hce]
  refine Ev.ite_pos (by omega) (Ev.ite_pos (ge0 _) (Ev.ite_pos (by omega) (Ev.ite_pos (ge0 _) (Ev.ite_pos (by omega) (Ev.ite_pos (by omega) ?_)))))
  have key : Ev (fun k => spec_l01Text.l1 k [q] (strOfNums (a ++ [chrN q (y : Int) (x : Int)])) (y : Int) ((x + 1 : Nat) : Int) (layV q).1) r := by
   refine ih (x + 1) (a ++ [chrN q (y : Int) (x : Int)]) (by omega) (by rw [List.length_append]; show _ + 1 + _ ≤ _; omega) ?_
   rw [rowN] at h
   simpa using h
  by_cases hc : coverAt q.f2 (y : Int) (x : Int) + 1 = 0
  ·
   refine Ev.ite_pos hc (Ev.ite_pos (by rw [strOfNums_size]; omega) ?_)
   rw [show (⟨#[46]⟩ : ByteArray) = strOfNums [46] from rfl, strOfNums_app, show (46 : Int) = chrN q (y : Int) (x : Int) by unfold chrN; rw [if_neg (by omega)]]
   exact key
  ·
   have hlo := findFrom_lo (inside (y : Int) (x : Int)) q.f2 0
   have h0 : 0 ≤ coverAt q.f2 (y : Int) (x : Int) := by unfold coverAt at hc ⊢; omega
   refine Ev.ite_neg hc ?_
   rw [w64 (x := coverAt q.f2 (y : Int) (x : Int) + 1 - 1) (by omega) (by omega), show coverAt q.f2 (y : Int) (x : Int) + 1 - 1 = coverAt q.f2 (y : Int) (x : Int) by omega]
   refine Ev.call (letter_val _ h0 hlt) (Ev.call rfl (Ev.ite_pos (by rw [strOfNums_size, strOfNums_size]; show a.length + 1 ≤ _; omega) ?_))
   rw [strOfNums_app, show letterN (coverAt q.f2 (y : Int) (x : Int)) = chrN q (y : Int) (x : Int) by unfold chrN; rw [if_pos h0]]
   exact key
theorem specRows (q : Sq) (hv : sqB q = true) (W H : Nat) (hW : q.f0 = W) (hH : q.f1 = H) (hW2 : W ≤ 12) (hH2 : H ≤ 12) : ∀ (d y : Nat) (a : List Int), y + d = H → a.length ≤ 13 * y →
  Ev (fun k => spec_l01Text.l0 k [q] (strOfNums a) (y : Int) (layV q).1) (strOfNums (a ++ rowsN q W d y)) := by
 intro d
 induction d with
 | zero =>
  intro y a hy ha
  refine Ev.step (fun k => spec_l01Text.l0.eq_2 _ _ _ _ _) (Ev.ite_pos (one_pos q) ?_)
  rw [rdQ, rowsN, List.append_nil]
  exact Ev.ite_neg (by omega) (Ev.now _)
 | succ d ih =>
  intro y a hy ha
  refine Ev.step (fun k => spec_l01Text.l0.eq_2 _ _ _ _ _) (Ev.ite_pos (one_pos q) ?_)
  rw [rdQ]
  refine Ev.ite_pos (by omega) (specRow q hv W hW hW2 y (by omega) _ W 0 a (by omega) (by omega) ?_)
  have h := ih (y + 1) (a ++ (rowN q y W 0 ++ [10])) (by omega) (by
   rw [List.length_append, List.length_append, rowN_len]
   show _ + (_ + 1) ≤ _
   omega)
  rw [rowsN]
  simpa using h
theorem specText (q : Sq) (hq : smallQ q) (hv : sqB q = true) : Ev (fun k => spec_l01Text.f k [q]) (strOfNums (textN q)) := by
 obtain ⟨w, v, -⟩ := sqB_edges hv
 unfold spec_l01Text.f
 refine Ev.bind (lay_val q hq) (Ev.ite_pos (layV_len q) ?_)
 exact specRows q hv q.f0.toNat q.f1.toNat (by omega) (by omega) (by omega) (by omega) q.f1.toNat 0 [] (by omega) (by simp)
theorem implRow (q : Sq) (hq : smallQ q) (hv : sqB q = true) (W H : Nat) (hW : q.f0 = W) (hW2 : W ≤ 12) (y : Nat) (hy : y < 12) (r : ByteArray) : ∀ (d x : Nat) (a : List Int), x + d = W → a.length + d ≤ 1000 →
  Ev (fun k => impl_SquareText.l0 k (a ++ (rowN q y d x ++ [10])) (H : Int) ((y + 1 : Nat) : Int) q.f0 q.f1 q.f2) r → Ev (fun k => impl_SquareText.l1 k a (y : Int) (H : Int) (y : Int) (W : Int) (x : Int) q.f0 q.f1 q.f2) r := by
 intro d
 induction d with
 | zero =>
  intro x a hx ha h
  refine Ev.step (fun k => impl_SquareText.l1.eq_2 _ _ _ _ _ _ _ _ _ _) ?_
  rw [w64_succ (i := y) (by omega)]
  refine Ev.ite_neg (by omega) (Ev.ite_pos (by omega) ?_)
  rw [rowN, List.nil_append] at h
  exact h
 | succ d ih =>
  intro x a hx ha h
  have hlt := cover_lt q hv (y : Int) (x : Int)
  refine Ev.step (fun k => impl_SquareText.l1.eq_2 _ _ _ _ _ _ _ _ _ _) ?_
  rw [w64_succ (i := x) (by omega)]
  refine Ev.ite_pos (by omega) (Ev.bind (at_val q hq (x : Int) (y : Int)) ?_)
  have key : Ev (fun k => impl_SquareText.l1 k (a ++ [chrN q (y : Int) (x : Int)]) (y : Int) (H : Int) (y : Int) (W : Int) ((x + 1 : Nat) : Int) q.f0 q.f1 q.f2) r := by
   refine ih (x + 1) (a ++ [chrN q (y : Int) (x : Int)]) (by omega) (by rw [List.length_append]; show _ + 1 + _ ≤ _; omega) ?_
   rw [rowN] at h
   simpa using h
  by_cases hc : coverAt q.f2 (y : Int) (x : Int) ≥ 0
  ·
   refine Ev.ite_pos hc (Ev.ite_pos hc (Ev.ite_pos hlt (Ev.ite_pos (by omega) ?_)))
   rw [letters_bt _ hc hlt, show letterN (coverAt q.f2 (y : Int) (x : Int)) = chrN q (y : Int) (x : Int) by unfold chrN; rw [if_pos hc]]
   exact key
  ·
   refine Ev.ite_neg hc (Ev.ite_pos (by omega) ?_)
   rw [show (46 : Int) = chrN q (y : Int) (x : Int) by unfold chrN; rw [if_neg hc]]
   exact key
theorem implRows (q : Sq) (hq : smallQ q) (hv : sqB q = true) (W H : Nat) (hW : q.f0 = W) (hH : q.f1 = H) (hW2 : W ≤ 12) (hH2 : H ≤ 12) : ∀ (d y : Nat) (a : List Int), y + d = H → a.length ≤ 13 * y →
  Ev (fun k => impl_SquareText.l0 k a (H : Int) (y : Int) q.f0 q.f1 q.f2) (strOfNums (a ++ rowsN q W d y)) := by
 intro d
 induction d with
 | zero =>
  intro y a hy ha
  refine Ev.step (fun k => impl_SquareText.l0.eq_2 _ _ _ _ _ _ _) ?_
  rw [rowsN, List.append_nil]
  exact Ev.ite_neg (by omega) (Ev.now _)
 | succ d ih =>
  intro y a hy ha
  refine Ev.step (fun k => impl_SquareText.l0.eq_2 _ _ _ _ _ _ _) ?_
  rw [small_w hq.1, hW]
  refine Ev.ite_pos (by omega) ?_
  rw [← hW]
  have h := ih (y + 1) (a ++ (rowN q y W 0 ++ [10])) (by omega) (by
   rw [List.length_append, List.length_append, rowN_len]
   show _ + (_ + 1) ≤ _
   omega)
  have h2 := implRow q hq hv W H hW hW2 y (by omega) (strOfNums (a ++ rowsN q W (d + 1) y)) W 0 a (by omega) (by omega) (by rw [rowsN]; simpa using h)
  rw [← hW] at h2
  exact h2
theorem implText (q : Sq) (hq : smallQ q) : Ev (fun k => impl_SquareText.f k q.f0 q.f1 q.f2) (if sqB q = true then strOfNums (textN q) else ⟨#[]⟩) := by
 unfold impl_SquareText.f
 refine Ev.bind (implValid q hq) ?_
 by_cases hv : sqB q = true
 ·
  obtain ⟨w, v, -⟩ := sqB_edges hv
  rw [if_pos hv]
  refine Ev.ite_pos hv ?_
  have h := implRows q hq hv q.f0.toNat q.f1.toNat (by omega) (by omega) (by omega) (by omega) q.f1.toNat 0 [] (by omega) (by simp)
  rw [small_w hq.2.1]
  rw [show ((q.f1.toNat : Nat) : Int) = q.f1 by omega] at h
  exact h
 ·
  rw [if_neg hv]
  exact Ev.ite_neg hv (Ev.now _)
end Go.Proofs.YteinapckfhpdkaaDoor.Q

namespace Go.Proofs.YteinapckfhpdkaaDoor.Q
open Go.RowKit Go.Proofs.YteinapckfhpdkaaDoorW.PrintWords Go.Proofs.YteinapckfhpdkaaDoorW.PrintLast Go.Proofs.YteinapckfhpdkaaDoorW.PrintMore
set_option linter.unusedVariables false
set_option linter.unusedSimpArgs false
namespace Rq
theorem loopV_all {c : Nat → Unit → Bool} : ∀ (d i : Nat), loopV c (fun _ s => s) (fun _ _ => false) (fun _ => true) d i () = true → ∀ j, i ≤ j → j < i + d → c j () = true := by
 intro d
 induction d with
 | zero => intro i _ j h1 h2; omega
 | succ d ih =>
  intro i h j h1 h2
  unfold loopV at h
  by_cases hc : c i () = true
  ·
   rw [if_pos hc] at h
   by_cases e : j = i
   · rw [e]; exact hc
   · exact ih (i + 1) h j (by omega) (by omega)
  ·
   rw [if_neg hc] at h
   cases h
theorem sqB_each {q : Sq} (h : sqB q = true) {i : Nat} (hi : i < q.f2.length) : sqC q.f0 q.f1 q.f2 i = true := by
 unfold sqB at h
 rw [Bool.and_eq_true] at h
 exact loopV_all _ _ h.2 i (Nat.zero_le _) (by omega)
structure Val (W H : Nat) (l : List Sl) : Prop where
 w : 1 ≤ W ∧ W ≤ 12
 h : 1 ≤ H ∧ H ≤ 12
 len : l.length ≤ 60
 lie : ∀ i, i < l.length → lies W H (rdS l (i : Int)) = true
 apart : ∀ i j, i < j → j < l.length → meets (rdS l (j : Int)) (rdS l (i : Int)) = false
 ord : ∀ i j, i < j → j < l.length → before (rdS l (i : Int)) (rdS l (j : Int)) = true
theorem rdS_get {l : List Sl} {i : Nat} (h : i < l.length) : rdS l (i : Int) = l[i] := rdI_get h
theorem val_of {q : Sq} (hv : sqB q = true) {W H : Nat} (hW : q.f0 = W) (hH : q.f1 = H) : Val W H q.f2 := by
 obtain ⟨h1, h2, h3⟩ := sqB_edges hv
 have each := fun i (hi : i < q.f2.length) => sqB_each hv hi
 have o1 : ∀ i, i + 1 < q.f2.length → before (rdS q.f2 (i : Int)) (rdS q.f2 ((i + 1 : Nat) : Int)) = true := by
  intro i hi
  have := each (i + 1) hi
  unfold sqC at this
  rw [Bool.and_eq_true, Bool.or_eq_true] at this
  rcases this.2 with h | h
  · exact absurd (of_decide_eq_true h) (by omega)
  ·
   rw [show (((i + 1 : Nat) : Int) - 1) = (i : Int) by omega] at h
   exact h
 refine ⟨by omega, by omega, h3, fun i hi => ?_, fun i j hij hj => ?_, fun i j hij hj => ?_⟩
 ·
  have := each i hi
  unfold sqC at this
  rw [Bool.and_eq_true, Bool.and_eq_true] at this
  rw [← hW, ← hH]
  exact this.1.1
 ·
  have := each j hj
  unfold sqC at this
  rw [Bool.and_eq_true, Bool.and_eq_true] at this
  have h := this.1.2
  rw [Bool.not_eq_true', List.any_eq_false] at h
  have hm : rdS q.f2 (i : Int) ∈ q.f2.take j := by
   rw [rdS_get (by omega), List.mem_take_iff_getElem]
   exact ⟨i, by omega, rfl⟩
  simpa using h _ hm
 ·
  induction j with
  | zero => omega
  | succ j ih =>
   by_cases e : i = j
   ·
    subst e
    exact o1 i hj
   ·
    have a := of_decide_eq_true (ih (by omega) (by omega))
    have b := of_decide_eq_true (o1 j hj)
    refine decide_eq_true ?_
    omega
theorem find_at {α : Type} (p : α → Bool) : ∀ (l : List α) (n i : Nat), findFrom p n l = ((n + i : Nat) : Int) → ∃ h : i < l.length, p l[i] = true
 | [], n, i, h => by
  unfold findFrom at h
  omega
 | x :: xs, n, i, h => by
  unfold findFrom at h
  by_cases hp : p x = true
  ·
   rw [if_pos hp] at h
   obtain rfl : i = 0 := by omega
   exact ⟨by simp, hp⟩
  ·
   rw [if_neg hp] at h
   have hlo := findFrom_lo p xs (n + 1)
   obtain ⟨j, rfl⟩ : ∃ j, i = j + 1 := ⟨i - 1, by omega⟩
   obtain ⟨hl, hq⟩ := find_at p xs (n + 1) j (by rw [h]; congr 1; omega)
   exact ⟨by simp only [List.length_cons]; omega, by simpa using hq⟩
theorem find_hit {α : Type} (p : α → Bool) : ∀ (l : List α) (n i : Nat) (h : i < l.length), p l[i] = true → (∀ j (hj : j < i), p (l[j]'(by omega)) = false) → findFrom p n l = ((n + i : Nat) : Int)
 | [], n, i, h, _, _ => absurd h (by simp)
 | x :: xs, n, 0, h, hp, _ => by
  unfold findFrom
  rw [if_pos (by simpa using hp)]
  rfl
 | x :: xs, n, i + 1, h, hp, hj => by
  unfold findFrom
  have h0 : p x = false := hj 0 (by omega)
  rw [if_neg (by simp [h0]), find_hit p xs (n + 1) i (by simpa using h) (by simpa using hp) (fun j hj2 => by simpa using hj (j + 1) (by omega))]
  congr 1
  omega
theorem cov_iff {W H : Nat} {l : List Sl} (V : Val W H l) {i : Nat} (hi : i < l.length) (y x : Int) : coverAt l y x = (i : Int) ↔ inside y x (rdS l (i : Int)) = true := by
 unfold coverAt
 constructor
 ·
  intro h
  obtain ⟨_, hp⟩ := find_at _ l 0 i (by rw [h, Nat.zero_add])
  rw [rdS_get hi]
  exact hp
 ·
  intro h
  rw [rdS_get hi] at h
  have := find_hit (inside y x) l 0 i hi h (fun j hj => by
   by_cases hc : inside y x l[j] = true
   ·
    have hm := V.apart j i hj hi
    rw [rdS_get hi, rdS_get (by omega)] at hm
    have a := of_decide_eq_true h
    have b := of_decide_eq_true hc
    have c := of_decide_eq_false hm
    omega
   · simpa using hc)
  rw [this, Nat.zero_add]
theorem cov_range {W H : Nat} {l : List Sl} (V : Val W H l) (y x : Int) : -1 ≤ coverAt l y x ∧ coverAt l y x < l.length := by
 have := findFrom_lo (inside y x) l 0
 unfold coverAt
 omega
def chrC (c : Int) : Int := if 0 ≤ c then letterN c else 46
theorem letter_key : ∀ c : Fin 60, Go.Lib.indexByte Rs.letters.data.toList (letterN ((c.1 : Nat) : Int)).toNat.toUInt8 = ((c.1 : Nat) : Int) := by decide +kernel
theorem letter_byte (c : Int) (h0 : 0 ≤ c) (h1 : c < 60) : 48 ≤ letterN c ∧ letterN c ≤ 122 := by
 unfold letterN
 split
 · omega
 · split <;> omega
theorem letter_inj {a b : Int} (h0 : 0 ≤ a) (h1 : a < 60) (h2 : 0 ≤ b) (h3 : b < 60) (h : letterN a = letterN b) : a = b := by
 unfold letterN at h
 split at h <;> split at h <;> (try split at h) <;> (try split at h) <;> omega
theorem chr_byte (c : Int) (h1 : c < 60) : 46 ≤ chrC c ∧ chrC c ≤ 122 := by
 unfold chrC
 split
 ·
  have := letter_byte c (by assumption) h1
  omega
 · omega
theorem chr_letter {c : Int} {m : Nat} (h1 : c < 60) (hm : m < 60) : chrC c = letterN (m : Int) ↔ c = (m : Int) := by
 constructor
 ·
  intro h
  unfold chrC at h
  have := letter_byte (m : Int) (by omega) (by omega)
  split at h
  · exact letter_inj (by assumption) h1 (by omega) (by omega) h
  · omega
 ·
  rintro rfl
  unfold chrC
  rw [if_pos (by omega)]
theorem idx_of (row : ByteArray) (x : Nat) (c : Int) (h0 : -1 ≤ c) (h1 : c < 60) (h : bt row (x : Int) = chrC c) : Rs.idx row x = c := by
 unfold Rs.idx
 rw [h]
 unfold chrC
 by_cases hc : 0 ≤ c
 ·
  rw [if_pos hc]
  have := letter_key ⟨c.toNat, by omega⟩
  rw [show ((c.toNat : Nat) : Int) = c by omega] at this
  exact this
 ·
  rw [if_neg hc, show c = -1 by omega]
  decide +kernel
def shape (s : Sl) (y x : Nat) : Option Sl :=
 if (y : Int) < s.f1 ∨ (y : Int) = s.f1 ∧ (x : Int) ≤ s.f0 then none
 else if (y : Int) = s.f1 then some ⟨s.f0, s.f1, min ((x : Int) - s.f0) s.f2, 1⟩
 else some ⟨s.f0, s.f1, s.f2, min ((y : Int) - s.f1 + (if s.f0 < (x : Int) then 1 else 0)) s.f3⟩
theorem sl_eq {a b c d a' b' c' d' : Int} (h1 : a = a') (h2 : b = b') (h3 : c = c') (h4 : d = d') : some (⟨a, b, c, d⟩ : Sl) = some ⟨a', b', c', d'⟩ := by rw [h1, h2, h3, h4]
theorem shape_a {s : Sl} {y x : Nat} (h : (y : Int) < s.f1 ∨ (y : Int) = s.f1 ∧ (x : Int) ≤ s.f0) : shape s y x = none := if_pos h
theorem shape_b {s : Sl} {y x : Nat} (h : (y : Int) = s.f1) (hx : s.f0 < (x : Int)) : shape s y x = some ⟨s.f0, s.f1, min ((x : Int) - s.f0) s.f2, 1⟩ := (if_neg (by omega)).trans (if_pos h)
theorem shape_c {s : Sl} {y x : Nat} (h : s.f1 < (y : Int)) : shape s y x = some ⟨s.f0, s.f1, s.f2, min ((y : Int) - s.f1 + (if s.f0 < (x : Int) then 1 else 0)) s.f3⟩ := (if_neg (by omega)).trans (if_neg (by omega))
theorem shape_in {s : Sl} (hs : lies 12 12 s = true) {y x : Nat} (hin : inside (y : Int) (x : Int) s = true) : shape s y (x + 1) = some (Rs.step (shape s y x) x y) := by
 obtain ⟨a0, a1, a2, a3, a4, a5⟩ := of_decide_eq_true hs
 obtain ⟨b0, b1, b2, b3⟩ := of_decide_eq_true hin
 have wx : IntKind.i8.wrap (x : Int) = x := i8w ⟨by omega, by omega⟩
 have wy : IntKind.i8.wrap (y : Int) = y := i8w ⟨by omega, by omega⟩
 have wx2 : IntKind.i8.wrap (IntKind.i8.wrap ((x : Int) - s.f0) + 1) = (x : Int) - s.f0 + 1 := by rw [i8w (a := (x : Int) - s.f0) ⟨by omega, by omega⟩, i8w ⟨by omega, by omega⟩]
 have wy2 : IntKind.i8.wrap (IntKind.i8.wrap ((y : Int) - s.f1) + 1) = (y : Int) - s.f1 + 1 := by rw [i8w (a := (y : Int) - s.f1) ⟨by omega, by omega⟩, i8w ⟨by omega, by omega⟩]
 by_cases e : (y : Int) = s.f1
 ·
  rw [shape_b e (by omega)]
  by_cases ex : (x : Int) ≤ s.f0
  ·
   rw [shape_a (.inr ⟨e, ex⟩)]
   refine (sl_eq ?_ ?_ ?_ rfl : _ = some (⟨IntKind.i8.wrap (x : Int), IntKind.i8.wrap (y : Int), 1, 1⟩ : Sl)) <;> omega
  ·
   rw [shape_b e (by omega)]
   unfold Rs.step
   simp only
   rw [wx, wy, wx2, wy2]
   refine sl_eq rfl rfl ?_ ?_
   · split <;> omega
   · split <;> omega
 ·
  rw [shape_c (by omega), shape_c (by omega)]
  unfold Rs.step
  simp only
  rw [wx, wy, wx2, wy2]
  refine sl_eq rfl rfl ?_ ?_
  · split <;> omega
  ·
   rw [if_pos (show s.f0 < ((x + 1 : Nat) : Int) by omega)]
   by_cases ex : s.f0 < (x : Int)
   ·
    rw [if_pos ex]
    split <;> omega
   ·
    rw [if_neg ex]
    split <;> omega
theorem shape_out {s : Sl} (hs : lies 12 12 s = true) {y x : Nat} (hin : ¬ inside (y : Int) (x : Int) s = true) : shape s y (x + 1) = shape s y x := by
 obtain ⟨a0, a1, a2, a3, a4, a5⟩ := of_decide_eq_true hs
 have hn := of_decide_eq_false (Bool.eq_false_iff.2 hin)
 unfold shape
 by_cases h1 : (y : Int) < s.f1 ∨ (y : Int) = s.f1 ∧ (x : Int) ≤ s.f0
 · rw [if_pos h1, if_pos (by omega)]
 ·
  rw [if_neg h1, if_neg (by omega)]
  by_cases e : (y : Int) = s.f1
  ·
   rw [if_pos e, if_pos e]
   refine sl_eq rfl rfl ?_ rfl
   omega
  ·
   rw [if_neg e, if_neg e]
   refine sl_eq rfl rfl rfl ?_
   split <;> split <;> omega
theorem shape_row {W H : Nat} {s : Sl} (hs : lies W H s = true) (y : Nat) : shape s (y + 1) 0 = shape s y W := by
 obtain ⟨a0, a1, a2, a3, a4, a5⟩ := of_decide_eq_true hs
 unfold shape
 by_cases h1 : (y : Int) < s.f1
 · rw [if_pos (show (y : Int) < s.f1 ∨ _ from .inl h1), if_pos (by omega)]
 ·
  rw [if_neg (show ¬ ((y : Int) < s.f1 ∨ (y : Int) = s.f1 ∧ (W : Int) ≤ s.f0) by omega), if_neg (show ¬ (((y + 1 : Nat) : Int) < s.f1 ∨ ((y + 1 : Nat) : Int) = s.f1 ∧ ((0 : Nat) : Int) ≤ s.f0) by omega), if_neg (show ¬ ((y + 1 : Nat) : Int) = s.f1 by omega)]
  by_cases e : (y : Int) = s.f1
  ·
   rw [if_pos e, if_neg (show ¬ s.f0 < ((0 : Nat) : Int) by omega)]
   refine sl_eq rfl rfl ?_ ?_ <;> omega
  ·
   rw [if_neg e, if_neg (show ¬ s.f0 < ((0 : Nat) : Int) by omega), if_pos (show s.f0 < (W : Int) by omega)]
   refine sl_eq rfl rfl rfl ?_
   omega
theorem shape_start {W H : Nat} {s : Sl} (hs : lies W H s = true) : shape s 0 0 = none := by
 obtain ⟨a0, a1, a2, a3, a4, a5⟩ := of_decide_eq_true hs
 unfold shape
 rw [if_pos (by omega)]
theorem shape_end {W H : Nat} {s : Sl} (hs : lies W H s = true) : shape s H 0 = some s := by
 obtain ⟨a0, a1, a2, a3, a4, a5⟩ := of_decide_eq_true hs
 unfold shape
 rw [if_neg (by omega), if_neg (by omega), if_neg (show ¬ s.f0 < ((0 : Nat) : Int) by omega)]
 refine (sl_eq rfl rfl rfl ?_ : _ = some (⟨s.f0, s.f1, s.f2, s.f3⟩ : Sl))
 omega
structure Good (rows : List ByteArray) (W H : Nat) (l : List Sl) : Prop where
 size : ∀ y : Nat, y < H → (rdOf ByteArray.empty rows (y : Int)).size = W
 cell : ∀ y x : Nat, y < H → x < W → bt (rdOf ByteArray.empty rows (y : Int)) (x : Int) = chrC (coverAt l (y : Int) (x : Int))
def Holds (l : List Sl) (M : Int → Option Sl) (y x : Nat) : Prop := (∀ i : Nat, i < l.length → M (i : Int) = shape (rdS l (i : Int)) y x) ∧ ∀ i : Nat, l.length ≤ i → M (i : Int) = none
theorem holds_step {rows : List ByteArray} {W H : Nat} {l : List Sl} (V : Val W H l) (g : Good rows W H l) {M : Int → Option Sl} {y x : Nat} (hy : y < H) (hx : x < W) (h : Holds l M y x) :
  Holds l (Rs.put M (rdOf ByteArray.empty rows (y : Int)) x y) y (x + 1) := by
 have hr := cov_range V (y : Int) (x : Int)
 have hl := V.len
 have hi := idx_of (rdOf ByteArray.empty rows (y : Int)) x _ hr.1 (by omega) (g.cell y x hy hx)
 unfold Rs.put Go.Mp.upd
 rw [hi]
 unfold Holds
 simp only
 refine ⟨fun i hil => ?_, fun i hil => ?_⟩
 ·
  have hs := lies12 (W := W) (H := H) (by have := V.w; omega) (by have := V.h; omega) (V.lie i hil)
  by_cases e : (i : Int) = coverAt l (y : Int) (x : Int)
  ·
   rw [if_pos e, ← e, h.1 i hil]
   exact (shape_in hs ((cov_iff V hil _ _).1 e.symm)).symm
  ·
   rw [if_neg e, h.1 i hil]
   exact (shape_out hs (fun hc => e ((cov_iff V hil _ _).2 hc).symm)).symm
 ·
  rw [if_neg (by omega)]
  exact h.2 i hil
theorem holds_row {rows : List ByteArray} {W H : Nat} {l : List Sl} (V : Val W H l) (g : Good rows W H l) {M : Int → Option Sl} {y : Nat} (hy : y < H) (h : Holds l M y 0) :
  ∀ x, x ≤ W → Holds l (Rs.rowM (rdOf ByteArray.empty rows (y : Int)) y M x) y x
 | 0, _ => h
 | x + 1, hx => by
  rw [Rs.rowM]
  exact holds_step V g hy (by omega) (holds_row V g hy h x (by omega))
theorem holds_grid {rows : List ByteArray} {W H : Nat} {l : List Sl} (V : Val W H l) (g : Good rows W H l) : ∀ y, y ≤ H → Holds l (Rs.gridM rows W y) y 0
 | 0, _ => ⟨fun i hi => (shape_start (V.lie i hi)).symm, fun _ _ => rfl⟩
 | y + 1, hy => by
  have h := holds_row V g (y := y) (by omega) (holds_grid V g y (by omega)) W (Nat.le_refl _)
  rw [Rs.gridM, g.size y (by omega), Nat.min_self]
  exact ⟨fun i hi => by rw [shape_row (V.lie i hi)]; exact h.1 i hi, h.2⟩
theorem gather_take {l : List Sl} {M : Int → Option Sl} (h1 : ∀ i (h : i < l.length), M ((i : Nat) : Int) = some l[i]) (h2 : ∀ i : Nat, l.length ≤ i → M (i : Int) = none) : ∀ n, Rs.gather M n = l.take n
 | 0 => by simp [Rs.gather]
 | n + 1 => by
  rw [Rs.gather, gather_take h1 h2 n]
  by_cases hn : n < l.length
  · rw [h1 n hn, List.take_succ_eq_append_getElem hn]
  ·
   rw [h2 n (by omega)]
   simp only [List.append_nil]
   rw [List.take_of_length_le (by omega), List.take_of_length_le (by omega)]
theorem impl_reads {rows : List ByteArray} {W H : Nat} {l : List Sl} (V : Val W H l) (g : Good rows W H l) : Rs.gather (Rs.gridM rows W H) 60 = l := by
 have h := holds_grid V g H (Nat.le_refl _)
 have hl := V.len
 rw [gather_take (l := l) (fun i hi => by rw [h.1 i hi, shape_end (V.lie i hi), rdS_get hi]) h.2 60, List.take_of_length_le hl]
theorem wrap_small (a : Int) : small (IntKind.i8.wrap a) := by
 unfold IntKind.wrap small
 have e : (2 ^ IntKind.i8.bits : Int) = 256 := rfl
 have e2 : (2 ^ (IntKind.i8.bits - 1) : Int) = 128 := rfl
 have e3 : IntKind.i8.signed = true := rfl
 rw [e, e2, e3]
 simp only [Bool.true_and, decide_eq_true_eq]
 split <;> omega
def allSmall (M : Int → Option Sl) : Prop := ∀ i s, M i = some s → smallS s
theorem step_small {o : Option Sl} (h : ∀ s, o = some s → smallS s) (x y : Nat) : smallS (Rs.step o x y) := by
 unfold Rs.step
 cases o with
 | none => exact ⟨wrap_small _, wrap_small _, (⟨by decide, by decide⟩ : small 1), (⟨by decide, by decide⟩ : small 1)⟩
 | some s =>
  obtain ⟨a, b, c, d⟩ := h s rfl
  refine ⟨a, b, ?_, ?_⟩
  ·
   show small (if _ then _ else _)
   split
   · exact wrap_small _
   · exact c
  ·
   show small (if _ then _ else _)
   split
   · exact wrap_small _
   · exact d
theorem put_small {M : Int → Option Sl} (h : allSmall M) (row : ByteArray) (x y : Nat) : allSmall (Rs.put M row x y) := by
 intro i s hs
 unfold Rs.put Go.Mp.upd at hs
 split at hs
 ·
  obtain rfl := Option.some.inj hs
  exact step_small (fun s hs => h _ s hs) x y
 · exact h i s hs
theorem row_small {M : Int → Option Sl} (h : allSmall M) (row : ByteArray) (y : Nat) : ∀ x, allSmall (Rs.rowM row y M x)
 | 0 => h
 | x + 1 => by rw [Rs.rowM]; exact put_small (row_small h row y x) row x y
theorem grid_small (rows : List ByteArray) (W : Nat) : ∀ y, allSmall (Rs.gridM rows W y)
 | 0 => fun _ _ h => by cases h
 | y + 1 => by rw [Rs.gridM]; exact row_small (grid_small rows W y) _ _ _
theorem gather_small {M : Int → Option Sl} (h : allSmall M) : ∀ n, ∀ s ∈ Rs.gather M n, smallS s
 | 0, s, hs => by cases hs
 | n + 1, s, hs => by
  rw [Rs.gather, List.mem_append] at hs
  rcases hs with hs | hs
  · exact gather_small h n s hs
  ·
   cases hM : M (n : Int) with
   | none => rw [hM] at hs; cases hs
   | some t =>
    rw [hM] at hs
    simp only [List.mem_singleton] at hs
    subst hs
    exact h _ _ hM
end Rq
end Go.Proofs.YteinapckfhpdkaaDoor.Q

namespace Go.Proofs.YteinapckfhpdkaaDoor.Q
open Go.RowKit Go.Proofs.YteinapckfhpdkaaDoorW.PrintWords Go.Proofs.YteinapckfhpdkaaDoorW.PrintLast Go.Proofs.YteinapckfhpdkaaDoorW.PrintMore
set_option linter.unusedVariables false
set_option linter.unusedSimpArgs false
namespace Rq
def grow (p : Nat → Bool) : Nat → Nat → Nat
 | 0, i => i
 | d + 1, i => if p i = true then grow p d (i + 1) else i
theorem grow_range (p : Nat → Bool) : ∀ d i, i ≤ grow p d i ∧ grow p d i ≤ i + d
 | 0, i => ⟨Nat.le_refl _, Nat.le_refl _⟩
 | d + 1, i => by
  have := grow_range p d (i + 1)
  unfold grow
  split <;> omega
theorem grow_eq {p : Nat → Bool} {n : Nat} : ∀ d i, i ≤ n → n ≤ i + d → (∀ j, i ≤ j → j < n → p j = true) → (n < i + d → p n = false) → grow p d i = n
 | 0, i, h1, h2, _, _ => by
  unfold grow
  omega
 | d + 1, i, h1, h2, h3, h4 => by
  unfold grow
  by_cases e : i = n
  ·
   subst e
   rw [if_neg (by rw [h4 (by omega)]; decide)]
  ·
   rw [if_pos (h3 i (Nat.le_refl _) (by omega))]
   exact grow_eq d (i + 1) (by omega) (by omega) (fun j h5 h6 => h3 j (by omega) h6) (fun h5 => h4 (by omega))
def rw_ (rows : List ByteArray) (y : Nat) : ByteArray := rdOf ByteArray.empty rows (y : Int)
def pW (rows : List ByteArray) (y x i : Nat) : Bool := decide (bt (rw_ rows y) ((x + i : Nat) : Int) = bt (rw_ rows y) (x : Int))
def pH (rows : List ByteArray) (W y x i : Nat) : Bool := decide ((rw_ rows (y + i)).size = W ∧ bt (rw_ rows (y + i)) (x : Int) = bt (rw_ rows y) (x : Int))
def slabAt (rows : List ByteArray) (W H y x : Nat) : Sl := ⟨(x : Int), (y : Int), (grow (pW rows y x) (W - (x + 1)) 1 : Nat), (grow (pH rows W y x) (H - (y + 1)) 1 : Nat)⟩
def cellS (rows : List ByteArray) (W H y x : Nat) (L : List Sl) : List Sl := if L.length = 60 ∨ bt (rw_ rows y) (x : Int) ≠ letterN (L.length : Int) then L else L ++ [slabAt rows W H y x]
def rowS (rows : List ByteArray) (W H y : Nat) : Nat → Nat → List Sl → List Sl
 | 0, _, L => L
 | d + 1, x, L => rowS rows W H y d (x + 1) (cellS rows W H y x L)
def gridS (rows : List ByteArray) (W H : Nat) : Nat → Nat → List Sl → Option (List Sl)
 | 0, _, L => some L
 | d + 1, y, L => if (rw_ rows y).size = W then gridS rows W H d (y + 1) (rowS rows W H y W 0 L) else none
theorem cellS_len {rows : List ByteArray} {W H y x : Nat} {L : List Sl} (h : L.length ≤ 60) : (cellS rows W H y x L).length ≤ 60 := by
 unfold cellS
 split
 · exact h
 ·
  rename_i hc
  have := not_or.1 hc
  rw [List.length_append, List.length_singleton]
  omega
theorem rowS_len {rows : List ByteArray} {W H y : Nat} : ∀ (d x : Nat) (L : List Sl), L.length ≤ 60 → (rowS rows W H y d x L).length ≤ 60
 | 0, _, _, h => h
 | d + 1, x, L, h => by
  unfold rowS
  exact rowS_len d (x + 1) _ (cellS_len h)
theorem cellS_small {rows : List ByteArray} {W H y x : Nat} {L : List Sl} (hW : W ≤ 12) (hH : H ≤ 12) (hx : x < W) (hy : y < H) (h : ∀ s ∈ L, smallS s) : ∀ s ∈ cellS rows W H y x L, smallS s := by
 intro s hs
 unfold cellS at hs
 split at hs
 · exact h s hs
 ·
  rw [List.mem_append, List.mem_singleton] at hs
  rcases hs with hs | rfl
  · exact h s hs
  ·
   have a := grow_range (pW rows y x) (W - (x + 1)) 1
   have b := grow_range (pH rows W y x) (H - (y + 1)) 1
   refine ⟨⟨?_, ?_⟩, ⟨?_, ?_⟩, ⟨?_, ?_⟩, ⟨?_, ?_⟩⟩ <;> (unfold slabAt; simp only; omega)
theorem rowS_small {rows : List ByteArray} {W H y : Nat} (hW : W ≤ 12) (hH : H ≤ 12) (hy : y < H) : ∀ (d x : Nat) (L : List Sl), x + d = W → (∀ s ∈ L, smallS s) → ∀ s ∈ rowS rows W H y d x L, smallS s
 | 0, _, _, _, h => h
 | d + 1, x, L, hx, h => by
  unfold rowS
  exact rowS_small hW hH hy d (x + 1) _ (by omega) (cellS_small hW hH (by omega) hy h)
theorem w2 {x w : Nat} (h1 : x ≤ 1000) (h2 : w ≤ 1000) : wrap64 ((x : Int) + wrap64 (w : Int)) = ((x + w : Nat) : Int) := by
 rw [w64 (x := (w : Int)) (by omega) (by omega), w64 (by omega) (by omega)]
 omega
theorem i8s {w : Nat} (h : w ≤ 100) : IntKind.i8.wrap ((w : Int) + 1) = ((w + 1 : Nat) : Int) := by
 rw [i8w ⟨by omega, by omega⟩]
 omega
theorem i8n {w : Nat} (h : w ≤ 100) : IntKind.i8.wrap (w : Int) = (w : Int) := i8w ⟨by omega, by omega⟩
section
variable {a0 : ByteArray} {rows : List ByteArray} {W H : Nat} (hW : W ≤ 12) (hH : H ≤ 12) (hr : rows.length = H + 1)
include hW hH hr
theorem specL3 {a b : Int} {r : Int × Int × List Sl × Int} {y x w : Nat} {L : List Sl} (hL : L.length ≤ 60) (hx : x < W) (hs : (rw_ rows y).size = W) : ∀ d h, y + h + d = H →
  Ev (fun k => spec_ReadSquare.l1 k a0 rows (H : Int) (W : Int) (y : Int) ((x + 1 : Nat) : Int) a b (L ++ [⟨(x : Int), (y : Int), (w : Int), (grow (pH rows W y x) d h : Nat)⟩])) r →
  Ev (fun k => spec_ReadSquare.l3 k a0 rows (H : Int) (W : Int) (y : Int) (x : Int) a b L (x : Int) (y : Int) (w : Int) (h : Int)) r := by
 unfold rw_ at hs
 intro d
 induction d with
 | zero =>
  intro h he hk
  refine Ev.step (fun k => spec_ReadSquare.l3.eq_2 _ _ _ _ _ _ _ _ _ _ _ _ _ _) ?_
  rw [w2 (by omega) (by omega), w64_succ (by omega)]
  refine Ev.ite_neg (by omega) (Ev.ite_pos (by omega) ?_)
  rw [show grow (pH rows W y x) 0 h = h from rfl] at hk
  exact hk
 | succ d ih =>
  intro h he hk
  refine Ev.step (fun k => spec_ReadSquare.l3.eq_2 _ _ _ _ _ _ _ _ _ _ _ _ _ _) ?_
  rw [w2 (by omega) (by omega), w64_succ (by omega), i8s (by omega)]
  refine Ev.ite_pos (by omega) (Ev.ite_pos (ge0 _) (Ev.ite_pos (by omega) ?_))
  by_cases c1 : (rdOf ByteArray.empty rows ((y + h : Nat) : Int)).size = W
  ·
   refine Ev.ite_pos (by omega) (Ev.ite_pos (ge0 _) (Ev.ite_pos (by omega) (Ev.ite_pos (ge0 _) (Ev.ite_pos (by omega) (Ev.ite_pos (by omega) ?_)))))
   by_cases c2 : bt (rdOf ByteArray.empty rows ((y + h : Nat) : Int)) (x : Int) = bt (rdOf ByteArray.empty rows (y : Int)) (x : Int)
   ·
    refine Ev.ite_pos c2 ?_
    have := ih (h + 1) (by omega) (by
     have e2 : grow (pH rows W y x) (d + 1) h = grow (pH rows W y x) d (h + 1) := by
      rw [grow, if_pos (show pH rows W y x h = true from decide_eq_true ⟨c1, c2⟩)]
     rw [← e2]
     exact hk)
    exact this
   ·
    refine Ev.ite_neg c2 (Ev.ite_pos (by omega) ?_)
    have e2 : grow (pH rows W y x) (d + 1) h = h := by
     rw [grow, if_neg (show ¬ pH rows W y x h = true from fun hc => c2 (of_decide_eq_true hc).2)]
    rw [e2] at hk
    exact hk
  ·
   refine Ev.ite_neg (by omega) (Ev.ite_pos (by omega) ?_)
   have e2 : grow (pH rows W y x) (d + 1) h = h := by
    rw [grow, if_neg (show ¬ pH rows W y x h = true from fun hc => c1 (of_decide_eq_true hc).1)]
   rw [e2] at hk
   exact hk
theorem specL2 {a b : Int} {r : Int × Int × List Sl × Int} {y x : Nat} {L : List Sl} (hL : L.length ≤ 60) (hx : x < W) (hy : y < H) (hs : (rw_ rows y).size = W) : ∀ d w, x + w + d = W →
  Ev (fun k => spec_ReadSquare.l1 k a0 rows (H : Int) (W : Int) (y : Int) ((x + 1 : Nat) : Int) a b (L ++ [⟨(x : Int), (y : Int), (grow (pW rows y x) d w : Nat), (grow (pH rows W y x) (H - (y + 1)) 1 : Nat)⟩])) r →
  Ev (fun k => spec_ReadSquare.l2 k a0 rows (H : Int) (W : Int) (y : Int) (x : Int) a b L (x : Int) (y : Int) (w : Int) 1) r := by
 have hs' := hs
 unfold rw_ at hs'
 have stop : ∀ w : Nat, Ev (fun k => spec_ReadSquare.l1 k a0 rows (H : Int) (W : Int) (y : Int) ((x + 1 : Nat) : Int) a b (L ++ [⟨(x : Int), (y : Int), (w : Int), (grow (pH rows W y x) (H - (y + 1)) 1 : Nat)⟩])) r →
   Ev (fun k => spec_ReadSquare.j5 k a0 rows (H : Int) (W : Int) (y : Int) (x : Int) a b L (x : Int) (y : Int) (w : Int) 1) r := by
  intro w hk
  refine Ev.step (fun k => spec_ReadSquare.j5.eq_2 _ _ _ _ _ _ _ _ _ _ _ _ _ _) ?_
  exact specL3 hW hH hr hL hx hs (H - (y + 1)) 1 (by omega) hk
 intro d
 induction d with
 | zero =>
  intro w he hk
  refine Ev.step (fun k => spec_ReadSquare.l2.eq_2 _ _ _ _ _ _ _ _ _ _ _ _ _ _) ?_
  rw [w2 (by omega) (by omega)]
  refine Ev.ite_neg (by omega) ?_
  rw [show grow (pW rows y x) 0 w = w from rfl] at hk
  exact stop w hk
 | succ d ih =>
  intro w he hk
  refine Ev.step (fun k => spec_ReadSquare.l2.eq_2 _ _ _ _ _ _ _ _ _ _ _ _ _ _) ?_
  rw [w2 (by omega) (by omega), i8s (by omega)]
  refine Ev.ite_pos (by omega) (Ev.ite_pos (ge0 _) (Ev.ite_pos (by omega) (Ev.ite_pos (ge0 _) (Ev.ite_pos (by omega) (Ev.ite_pos (ge0 _) (Ev.ite_pos (by omega) ?_))))))
  by_cases c2 : bt (rdOf ByteArray.empty rows (y : Int)) ((x + w : Nat) : Int) = bt (rdOf ByteArray.empty rows (y : Int)) (x : Int)
  ·
   refine Ev.ite_pos c2 ?_
   have := ih (w + 1) (by omega) (by
    have e2 : grow (pW rows y x) (d + 1) w = grow (pW rows y x) d (w + 1) := by
     rw [grow, if_pos (show pW rows y x w = true from decide_eq_true c2)]
    rw [← e2]
    exact hk)
   exact this
  ·
   refine Ev.ite_neg c2 ?_
   have e2 : grow (pW rows y x) (d + 1) w = w := by
    rw [grow, if_neg (show ¬ pW rows y x w = true from fun hc => c2 (of_decide_eq_true hc))]
   rw [e2] at hk
   exact stop w hk
theorem specCell {a b : Int} {r : Int × Int × List Sl × Int} {y x : Nat} {L : List Sl} (hL : L.length ≤ 60) (hx : x < W) (hy : y < H) (hs : (rw_ rows y).size = W)
  (hk : Ev (fun k => spec_ReadSquare.l1 k a0 rows (H : Int) (W : Int) (y : Int) ((x + 1 : Nat) : Int) a b (cellS rows W H y x L)) r) :
  Ev (fun k => spec_ReadSquare.l1 k a0 rows (H : Int) (W : Int) (y : Int) (x : Int) a b L) r := by
 have hs' := hs
 unfold rw_ at hs'
 have skip : cellS rows W H y x L = L → Ev (fun k => spec_ReadSquare.j3 k a0 rows (H : Int) (W : Int) (y : Int) (x : Int) true a b L) r := by
  intro e
  rw [e] at hk
  refine Ev.step (fun k => spec_ReadSquare.j3.eq_2 _ _ _ _ _ _ _ _ _ _ _) (Ev.ite_pos rfl ?_)
  rw [w64_succ (by omega)]
  exact hk
 refine Ev.step (fun k => spec_ReadSquare.l1.eq_2 _ _ _ _ _ _ _ _ _ _) (Ev.ite_pos (by omega) ?_)
 by_cases c1 : L.length = 60
 · exact Ev.ite_pos (by omega) (skip (if_pos (.inl c1)))
 ·
  refine Ev.ite_neg (by omega) (Ev.ite_pos (ge0 _) (Ev.ite_pos (by omega) (Ev.ite_pos (ge0 _) (Ev.ite_pos (by omega) (Ev.call (letter_val _ (ge0 _) (by omega)) ?_)))))
  by_cases c2 : bt (rw_ rows y) (x : Int) = letterN (L.length : Int)
  ·
   have c2' := c2
   unfold rw_ at c2'
   rw [show (bt (rdOf ByteArray.empty rows (y : Int)) (x : Int) != letterN (L.length : Int)) = false by rw [c2']; exact bne_self_eq_false _]
   have e : cellS rows W H y x L = L ++ [slabAt rows W H y x] := if_neg (by rintro (h | h); exact c1 h; exact h c2)
   rw [e] at hk
   refine Ev.step (fun k => spec_ReadSquare.j3.eq_2 _ _ _ _ _ _ _ _ _ _ _) (Ev.ite_neg (by decide) ?_)
   rw [i8n (by omega), i8n (by omega)]
   exact specL2 hW hH hr hL hx hy hs (W - (x + 1)) 1 (by omega) hk
  ·
   have c2' := c2
   unfold rw_ at c2'
   rw [show (bt (rdOf ByteArray.empty rows (y : Int)) (x : Int) != letterN (L.length : Int)) = true from bne_iff_ne.2 c2']
   exact skip (if_pos (.inr c2))
theorem specRow {a b : Int} {r : Int × Int × List Sl × Int} {y : Nat} (hy : y < H) (hs : (rw_ rows y).size = W) : ∀ (d x : Nat) (L : List Sl), x + d = W → L.length ≤ 60 →
  Ev (fun k => spec_ReadSquare.l0 k a0 rows (H : Int) (W : Int) ((y + 1 : Nat) : Int) a b (rowS rows W H y d x L)) r → Ev (fun k => spec_ReadSquare.l1 k a0 rows (H : Int) (W : Int) (y : Int) (x : Int) a b L) r
 | 0, x, L, hx, hL, hk => by
  refine Ev.step (fun k => spec_ReadSquare.l1.eq_2 _ _ _ _ _ _ _ _ _ _) (Ev.ite_neg (by omega) ?_)
  rw [w64_succ (by omega)]
  unfold rowS at hk
  exact hk
 | d + 1, x, L, hx, hL, hk => by
  unfold rowS at hk
  exact specCell hW hH hr hL (by omega) hy hs (specRow hy hs d (x + 1) _ (by omega) (cellS_len hL) hk)
end
def fin (a0 : ByteArray) (W H : Nat) : Option (List Sl) → Int × Int × List Sl × Int
 | none => (0, 0, [], 5)
 | some L => if sqB ⟨(W : Int), (H : Int), L⟩ = true ∧ (strOfNums (textN ⟨(W : Int), (H : Int), L⟩)).toList = a0.toList then ((W : Int), (H : Int), L, 0) else (0, 0, [], 5)
theorem specGrid {a0 : ByteArray} {rows : List ByteArray} {W H : Nat} (hW : W ≤ 12) (hH : H ≤ 12) (hr : rows.length = H + 1) : ∀ (d y : Nat) (L : List Sl), y + d = H → L.length ≤ 60 → (∀ s ∈ L, smallS s) →
  Ev (fun k => spec_ReadSquare.l0 k a0 rows (H : Int) (W : Int) (y : Int) (W : Int) (H : Int) L) (fin a0 W H (gridS rows W H d y L))
 | 0, y, L, hy, hL, hs => by
  have hq : smallQ (⟨(W : Int), (H : Int), L⟩ : Sq) := ⟨⟨by show -128 ≤ (W : Int); omega, by show (W : Int) ≤ 127; omega⟩, ⟨by show -128 ≤ (H : Int); omega, by show (H : Int) ≤ 127; omega⟩, by show L.length ≤ _; omega, hs⟩
  refine Ev.step (fun k => spec_ReadSquare.l0.eq_2 _ _ _ _ _ _ _ _ _) (Ev.ite_neg (by omega) (Ev.bind (specOk _ hq) ?_))
  unfold gridS fin
  by_cases hv : sqB ⟨(W : Int), (H : Int), L⟩ = true
  ·
   refine Ev.ite_pos hv (Ev.bind (specText _ hq hv) ?_)
   by_cases ht : (strOfNums (textN ⟨(W : Int), (H : Int), L⟩)).toList = a0.toList
   ·
    refine Ev.ite_pos ht ?_
    show Ev _ (if _ then _ else _)
    rw [if_pos ⟨hv, ht⟩]
    exact Ev.now _
   ·
    refine Ev.ite_neg ht ?_
    show Ev _ (if _ then _ else _)
    rw [if_neg (fun h => ht h.2)]
    exact Ev.now _
  ·
   refine Ev.ite_neg hv ?_
   show Ev _ (if _ then _ else _)
   rw [if_neg (fun h => hv h.1)]
   exact Ev.now _
 | d + 1, y, L, hy, hL, hs => by
  refine Ev.step (fun k => spec_ReadSquare.l0.eq_2 _ _ _ _ _ _ _ _ _) (Ev.ite_pos (by omega) (Ev.ite_pos (ge0 _) (Ev.ite_pos (by omega) ?_)))
  unfold gridS
  by_cases c : (rw_ rows y).size = W
  ·
   have c' := c
   unfold rw_ at c'
   rw [if_pos c]
   exact Ev.ite_pos (by omega) (specRow hW hH hr (by omega) c W 0 L (by omega) hL (specGrid hW hH hr d (y + 1) _ (by omega) (rowS_len _ _ _ hL) (rowS_small hW hH (by omega) _ _ _ (by omega) hs)))
  ·
   have c' := c
   unfold rw_ at c'
   rw [if_neg c]
   exact Ev.ite_neg (by omega) (Ev.now _)
def pre (s : Sl) (y x : Nat) : Prop := s.f1 < (y : Int) ∨ s.f1 = (y : Int) ∧ s.f0 < (x : Int)
def At (l L : List Sl) (y x : Nat) : Prop := ∃ m, m ≤ l.length ∧ L = l.take m ∧ (∀ i : Nat, i < m → pre (rdS l (i : Int)) y x) ∧ ∀ i : Nat, m ≤ i → i < l.length → ¬ pre (rdS l (i : Int)) y x
section
variable {rows : List ByteArray} {W H : Nat} {l : List Sl} (V : Val W H l) (g : Good rows W H l)
include V g
theorem slab_good {y x m : Nat} (hy : y < H) (hx : x < W) (hm : m < l.length) (e0 : (rdS l (m : Int)).f0 = x) (e1 : (rdS l (m : Int)).f1 = y) : slabAt rows W H y x = rdS l (m : Int) := by
 obtain ⟨a0, a1, a2, a3, a4, a5⟩ := of_decide_eq_true (V.lie m hm)
 have hl := V.len
 have same : ∀ y' x' : Nat, y' < H → x' < W → (bt (rw_ rows y') (x' : Int) = letterN (m : Int) ↔ inside (y' : Int) (x' : Int) (rdS l (m : Int)) = true) := by
  intro y' x' h1 h2
  have hc := cov_range V (y' : Int) (x' : Int)
  unfold rw_
  rw [g.cell y' x' h1 h2, chr_letter (by omega) (by omega), cov_iff V hm]
 have hin : inside (y : Int) (x : Int) (rdS l (m : Int)) = true := decide_eq_true (by omega)
 have h0 := (same y x hy hx).2 hin
 obtain ⟨w, hw⟩ : ∃ w : Nat, (rdS l (m : Int)).f2 = w := ⟨(rdS l (m : Int)).f2.toNat, by omega⟩
 obtain ⟨h, hh⟩ : ∃ h : Nat, (rdS l (m : Int)).f3 = h := ⟨(rdS l (m : Int)).f3.toNat, by omega⟩
 have gw : grow (pW rows y x) (W - (x + 1)) 1 = w := by
  refine grow_eq _ _ (by omega) (by omega) (fun j h1 h2 => ?_) (fun h1 => ?_)
  ·
   unfold pW
   rw [h0]
   exact decide_eq_true ((same y (x + j) hy (by omega)).2 (decide_eq_true (by omega)))
  ·
   unfold pW
   rw [h0]
   refine decide_eq_false (fun hc => ?_)
   have := of_decide_eq_true ((same y (x + w) hy (by omega)).1 hc)
   omega
 have gh : grow (pH rows W y x) (H - (y + 1)) 1 = h := by
  refine grow_eq _ _ (by omega) (by omega) (fun j h1 h2 => ?_) (fun h1 => ?_)
  ·
   unfold pH
   rw [h0]
   exact decide_eq_true ⟨g.size (y + j) (by omega), (same (y + j) x (by omega) hx).2 (decide_eq_true (by omega))⟩
  ·
   unfold pH
   rw [h0]
   refine decide_eq_false (fun hc => ?_)
   have := of_decide_eq_true ((same (y + h) x (by omega) hx).1 hc.2)
   omega
 unfold slabAt
 rw [gw, gh, ← hw, ← hh, ← e0, ← e1]
theorem cell_good {y x : Nat} (hy : y < H) (hx : x < W) {L : List Sl} (h : At l L y x) : At l (cellS rows W H y x L) y (x + 1) := by
 obtain ⟨m, hm, rfl, h1, h2⟩ := h
 have hl := V.len
 have hlen : (l.take m).length = m := by rw [List.length_take]; omega
 have hc := cov_range V (y : Int) (x : Int)
 have hcell := g.cell y x hy hx
 have onward : ∀ i : Nat, i < m → pre (rdS l (i : Int)) y (x + 1) := fun i hi => by
  have := h1 i hi
  unfold pre at this ⊢
  omega
 unfold cellS
 rw [hlen]
 by_cases c : m = 60 ∨ bt (rw_ rows y) (x : Int) ≠ letterN (m : Int)
 ·
  rw [if_pos c]
  refine ⟨m, hm, rfl, onward, fun i hi hil hp => ?_⟩
  have hn := h2 i hi hil
  have hn0 := h2 m (Nat.le_refl _) (by omega)
  have hf : (rdS l (i : Int)).f1 = y ∧ (rdS l (i : Int)).f0 = x := by
   unfold pre at hp hn
   omega
  have em : i = m := by
   by_cases e : m = i
   · exact e.symm
   ·
    have := of_decide_eq_true (V.ord m i (by omega) hil)
    unfold pre at hn0
    omega
  subst em
  rcases c with c | c
  · omega
  ·
   obtain ⟨a0, a1, a2, a3, a4, a5⟩ := of_decide_eq_true (V.lie i hil)
   refine c ?_
   unfold rw_
   rw [hcell, chr_letter (by omega) (by omega), cov_iff V hil]
   exact decide_eq_true (by omega)
 ·
  rw [if_neg c]
  obtain ⟨c1, c2⟩ := not_or.1 c
  have c3 : bt (rw_ rows y) (x : Int) = letterN (m : Int) := Classical.not_not.1 c2
  unfold rw_ at c3
  rw [hcell, chr_letter (by omega) (by omega)] at c3
  have hml : m < l.length := by omega
  obtain ⟨b0, b1, b2, b3⟩ := of_decide_eq_true ((cov_iff V hml _ _).1 c3)
  have hn0 := h2 m (Nat.le_refl _) hml
  have e1 : (rdS l (m : Int)).f1 = y := by unfold pre at hn0; omega
  have e0 : (rdS l (m : Int)).f0 = x := by unfold pre at hn0; omega
  refine ⟨m + 1, by omega, ?_, fun i hi => ?_, fun i hi hil hp => ?_⟩
  · rw [slab_good V g hy hx hml e0 e1, rdS_get hml, List.take_succ_eq_append_getElem hml]
  ·
   by_cases e : i = m
   ·
    subst e
    unfold pre
    omega
   · exact onward i (by omega)
  ·
   have := of_decide_eq_true (V.ord m i (by omega) hil)
   unfold pre at hp
   omega
theorem row_good {y : Nat} (hy : y < H) : ∀ (d x : Nat) (L : List Sl), x + d = W → At l L y x → At l (rowS rows W H y d x L) y W
 | 0, x, L, hx, h => by
  obtain rfl : x = W := by omega
  exact h
 | d + 1, x, L, hx, h => by
  unfold rowS
  exact row_good hy d (x + 1) _ (by omega) (cell_good V g hy (by omega) h)
theorem grid_good : ∀ (d y : Nat) (L : List Sl), y + d = H → At l L y 0 → gridS rows W H d y L = some l
 | 0, y, L, hy, h => by
  obtain ⟨m, hm, rfl, h1, h2⟩ := h
  unfold gridS
  by_cases e : m = l.length
  · rw [e, List.take_length]
  ·
   obtain ⟨a0, a1, a2, a3, a4, a5⟩ := of_decide_eq_true (V.lie m (by omega))
   refine absurd ?_ (h2 m (Nat.le_refl _) (by omega))
   unfold pre
   omega
 | d + 1, y, L, hy, h => by
  unfold gridS
  rw [if_pos (show (rw_ rows y).size = W from g.size y (by omega))]
  refine grid_good d (y + 1) _ (by omega) ?_
  obtain ⟨m, hm, e, h1, h2⟩ := row_good V g (y := y) (by omega) W 0 L (by omega) h
  refine ⟨m, hm, e, fun i hi => ?_, fun i hi hil hp => ?_⟩
  ·
   have := h1 i hi
   unfold pre at this ⊢
   omega
  ·
   obtain ⟨a0, a1, a2, a3, a4, a5⟩ := of_decide_eq_true (V.lie i hil)
   have := h2 i hi hil
   unfold pre at this hp
   omega
theorem spec_reads : gridS rows W H H 0 [] = some l := grid_good V g H 0 [] (by omega) ⟨0, Nat.zero_le _, by simp, fun i hi => by omega, fun i hi hil hp => by
 obtain ⟨a0, a1, a2, a3, a4, a5⟩ := of_decide_eq_true (V.lie i hil)
 unfold pre at hp
 omega⟩
end
end Rq
end Go.Proofs.YteinapckfhpdkaaDoor.Q

namespace Go.Proofs.YteinapckfhpdkaaDoor.Q
open Go.RowKit Go.Proofs.YteinapckfhpdkaaDoorW.PrintWords Go.Proofs.YteinapckfhpdkaaDoorW.PrintLast Go.Proofs.YteinapckfhpdkaaDoorW.PrintMore
set_option linter.unusedVariables false
namespace Num
def dig (c : UInt8) : Prop := 48 ≤ c.toNat ∧ c.toNat ≤ 57
instance (c : UInt8) : Decidable (dig c) := by unfold dig; infer_instance
def val : Nat → List UInt8 → Nat
 | acc, [] => acc
 | acc, c :: r => val (10 * acc + (c.toNat - 48)) r
def Numl (l : List UInt8) : Prop := l ≠ [] ∧ (∀ c ∈ l, dig c) ∧ (l.head? = some 48 → l.length = 1)
instance (l : List UInt8) : Decidable (Numl l) := by unfold Numl; infer_instance
def cuts (c : UInt8) : List UInt8 → List (List UInt8)
 | [] => [[]]
 | x :: r => if x = c then [] :: cuts c r else match cuts c r with
  | h :: t => (x :: h) :: t
  | [] => [[x]]
theorem cuts_ne (c : UInt8) (l : List UInt8) : cuts c l ≠ [] := by
 cases l with
 | nil => simp [cuts]
 | cons x r =>
  unfold cuts
  split
  · simp
  · split <;> simp
theorem cuts_no {c : UInt8} : ∀ {l : List UInt8}, c ∉ l → cuts c l = [l]
 | [], _ => rfl
 | x :: r, h => by
  have h1 : x ≠ c := fun e => h (by simp [e])
  have h2 := cuts_no (c := c) (l := r) (fun e => h (by simp [e]))
  unfold cuts
  rw [if_neg h1, h2]
theorem cuts_hit {c : UInt8} : ∀ {l r : List UInt8}, c ∉ l → cuts c (l ++ c :: r) = l :: cuts c r
 | [], r, _ => by simp [cuts]
 | x :: l, r, h => by
  have h1 : x ≠ c := fun e => h (by simp [e])
  have h2 := cuts_hit (c := c) (l := l) (r := r) (fun e => h (by simp [e]))
  show cuts c (x :: (l ++ c :: r)) = _
  rw [cuts, if_neg h1, h2]
theorem index_split (l : List UInt8) (c : UInt8) : (Go.Lib.index l [c] = -1 ∧ c ∉ l) ∨ ∃ i : Nat, Go.Lib.index l [c] = i ∧ i < l.length ∧ c ∉ l.take i ∧ l = l.take i ++ c :: l.drop (i + 1) := by
 rw [Go.Lib.index_one]
 have hge : -1 ≤ Go.Lib.indexByte l c := by rw [← Go.Lib.index_one]; exact Go.Lib.index_ge _ _
 rcases (by omega : Go.Lib.indexByte l c = -1 ∨ 0 ≤ Go.Lib.indexByte l c) with h | h
 ·
  refine .inl ⟨h, fun hm => ?_⟩
  obtain ⟨k, hk, he⟩ := List.getElem_of_mem hm
  exact Go.Lib.indexByte_none h k (by rw [List.getElem?_eq_getElem hk, he])
 ·
  obtain ⟨i, hi⟩ := Int.eq_ofNat_of_zero_le h
  obtain ⟨h1, h2⟩ := Go.Lib.indexByte_some hi
  obtain ⟨hl, he⟩ := List.getElem?_eq_some_iff.1 h1
  refine .inr ⟨i, hi, hl, fun hm => ?_, ?_⟩
  ·
   obtain ⟨k, hk, hk'⟩ := List.getElem_of_mem hm
   rw [List.length_take] at hk
   rw [List.getElem_take] at hk'
   exact h2 k (by omega) (by rw [List.getElem?_eq_getElem (by omega), hk'])
  · rw [← he, List.getElem_cons_drop, List.take_append_drop]
theorem splitK_cuts (c : UInt8) : ∀ (n : Nat) (l : List UInt8), l.length ≤ n → Go.Lib.splitK [c] 0 (Go.Lib.count l [c]) l = cuts c l
 | n, l, hn => by
  rcases index_split l c with ⟨h, hm⟩ | ⟨i, hi, hl, hm, he⟩
  ·
   rw [Go.Lib.count_miss h, cuts_no hm]
   rfl
  ·
   rw [Go.Lib.count_hit (by simp) hi, Nat.add_comm 1]
   have hb : ¬ (Go.Lib.index l [c] == -1) = true := fun e => by have := beq_iff_eq.1 e; omega
   rw [Go.Lib.splitK, if_neg hb, hi]
   conv => rhs; rw [he]
   rw [cuts_hit hm]
   simp only [Int.toNat_natCast, Nat.add_zero, List.length_singleton]
   rw [splitK_cuts c (n - 1) (l.drop (i + 1)) (by rw [List.length_drop]; omega)]
termination_by n => n
decreasing_by omega
def asB (l : List (List UInt8)) : List ByteArray := l.map fun x => ⟨x.toArray⟩
theorem splitB_cuts (s : ByteArray) (c : UInt8) : Go.Lib.splitB ⟨#[c]⟩ 0 (Go.Lib.countB s ⟨#[c]⟩) s = asB (cuts c s.data.toList) := by
 have h := Go.Lib.splitB_data ⟨#[c]⟩ 0 (Go.Lib.countB s ⟨#[c]⟩) s
 have h2 : Go.Lib.splitK [c] 0 (Go.Lib.count s.data.toList [c]) s.data.toList = cuts c s.data.toList := splitK_cuts c _ _ (Nat.le_refl _)
 have h3 : (Go.Lib.splitB ⟨#[c]⟩ 0 (Go.Lib.countB s ⟨#[c]⟩) s).map (·.data.toList) = cuts c s.data.toList := h.trans h2
 rw [asB, ← h3, List.map_map]
 conv => lhs; rw [← List.map_id (Go.Lib.splitB _ _ _ _)]
 exact List.map_congr_left fun x _ => rfl
theorem cuts_len (c : UInt8) : ∀ l : List UInt8, (cuts c l).length ≤ l.length + 1
 | [] => by simp [cuts]
 | x :: r => by
  have ih := cuts_len c r
  unfold cuts
  split
  · simp; omega
  ·
   split
   ·
    rename_i h t e
    rw [e] at ih
    simp at ih ⊢
    omega
   · simp
end Num
end Go.Proofs.YteinapckfhpdkaaDoor.Q

namespace Go.Proofs.YteinapckfhpdkaaDoor.Q
open Go.RowKit Go.Proofs.YteinapckfhpdkaaDoorW.PrintWords Go.Proofs.YteinapckfhpdkaaDoorW.PrintLast Go.Proofs.YteinapckfhpdkaaDoorW.PrintMore
set_option linter.unusedVariables false
set_option linter.unusedSimpArgs false
namespace Rq
open Num
theorem bt_nat {s : ByteArray} {i : Nat} (h : i < s.size) : bt s (i : Int) = ((s.data.toList[i]'(by simpa using h)).toNat : Int) := by
 unfold bt
 rw [dif_pos (by simpa using h)]
 rfl
theorem size_toList (s : ByteArray) : s.data.toList.length = s.size := Array.length_toList
theorem extract_bytes (s : ByteArray) (a b : Nat) : s.extract a b = ⟨((s.data.toList.drop a).take (b - a)).toArray⟩ := by
 apply ByteArray.ext
 apply Array.toList_inj.1
 rw [Go.Lib.extract_data]
theorem extract_end (s : ByteArray) (a : Nat) : s.extract a s.size = ⟨(s.data.toList.drop a).toArray⟩ := by
 apply ByteArray.ext
 apply Array.toList_inj.1
 rw [Go.Lib.extract_to_end]
theorem byte_eq {a c : UInt8} : ((a.toNat : Int) = (c.toNat : Int)) ↔ a = c := ⟨fun h => UInt8.toNat_inj.1 (by omega), fun h => by rw [h]⟩
theorem specSplit (s : ByteArray) (c : UInt8) (hs : s.size ≤ 4194304) : Ev (fun k => spec_l01Split.f k s (c.toNat : Int)) (asB (cuts c s.data.toList)) := by
 unfold spec_l01Split.f
 have hsz := size_toList s
 refine Ev.run (L := fun k (p : List ByteArray × Nat) (i : Nat) => spec_l01Split.l0 k s (c.toNat : Int) p.1 (p.2 : Int) (i : Int)) s.size (fun i p => if (bt s (i : Int)) = (c.toNat : Int) then (p.1 ++ [s.extract p.2 i], i + 1) else p) (fun i p => p.2 ≤ i ∧ p.1.length ≤ i ∧ c ∉ (s.data.toList.drop p.2).take (i - p.2) ∧ p.1 ++ asB (cuts c (s.data.toList.drop p.2)) = asB (cuts c s.data.toList)) _ ?_ ?_ (d := s.size) (i := 0) (s := ([], 0)) (by omega) ⟨Nat.le_refl _, Nat.le_refl _, by simp, by simp⟩
 ·
  rintro i ⟨out, b⟩ hi ⟨h1, h2, h3, h4⟩
  simp only at h1 h2 h3 h4
  have h2' : ((out, b) : List ByteArray × Nat).1.length ≤ s.size := by show out.length ≤ _; omega
  have hil : i < s.data.toList.length := by omega
  by_cases hc : (bt s (i : Int)) = (c.toNat : Int)
  ·
   have hx : s.data.toList[i] = c := by rw [bt_nat hi] at hc; exact byte_eq.1 hc
   have hd : s.data.toList.drop b = (s.data.toList.drop b).take (i - b) ++ c :: s.data.toList.drop (i + 1) := by
    have e : (s.data.toList.drop b).drop (i - b) = c :: s.data.toList.drop (i + 1) := by
     rw [List.drop_drop, show b + (i - b) = i by omega, List.drop_eq_getElem_cons hil, hx]
    rw [← e, List.take_append_drop]
   refine ⟨?_, fun r hr => Ev.step (fun k => spec_l01Split.l0.eq_2 _ _ _ _ _ _) ?_⟩
   ·
    rw [if_pos hc]
    refine ⟨Nat.le_refl _, by simp; omega, by simp, ?_⟩
    rw [← h4, hd, cuts_hit h3]
    show _ ++ asB _ = _ ++ (_ :: asB _)
    rw [extract_bytes]
    simp [List.drop_append, asB]
   ·
    rw [if_pos hc] at hr
    refine Ev.ite_pos (by omega) (Ev.ite_pos (ge0 _) (Ev.ite_pos hc (Ev.ite_pos (ge0 _) (Ev.ite_pos (by omega) (Ev.ite_pos (by omega) (Ev.ite_pos (by omega) ?_))))))
    rw [w64_succ (by omega)]
    exact hr
  ·
   have hx : s.data.toList[i] ≠ c := fun e => hc (by rw [bt_nat hi, e])
   refine ⟨?_, fun r hr => Ev.step (fun k => spec_l01Split.l0.eq_2 _ _ _ _ _ _) ?_⟩
   ·
    rw [if_neg hc]
    refine ⟨by omega, by show out.length ≤ i + 1; omega, ?_, h4⟩
    show c ∉ (s.data.toList.drop b).take (i + 1 - b)
    rw [show i + 1 - b = (i - b) + 1 by omega, List.take_succ_eq_append_getElem (by rw [List.length_drop]; omega), List.mem_append]
    rintro (h | h)
    · exact h3 h
    ·
     rw [List.getElem_drop, List.mem_singleton] at h
     exact hx (by rw [h]; congr 1; omega)
   ·
    rw [if_neg hc] at hr
    refine Ev.ite_pos (by omega) (Ev.ite_pos (ge0 _) (Ev.ite_neg hc ?_))
    rw [w64_succ (by omega)]
    exact hr
 ·
  rintro ⟨out, b⟩ ⟨h1, h2, h3, h4⟩
  simp only at h1 h2 h3 h4
  have h2' : ((out, b) : List ByteArray × Nat).1.length ≤ s.size := by show out.length ≤ _; omega
  refine Ev.step (fun k => spec_l01Split.l0.eq_2 _ _ _ _ _ _) (Ev.ite_neg (by omega) (Ev.ite_pos (ge0 _) (Ev.ite_pos (by omega) (Ev.ite_pos (by omega) (Ev.eq_ (Ev.now _) ?_)))))
  rw [List.take_of_length_le (by rw [List.length_drop]; omega)] at h3
  rw [cuts_no h3] at h4
  rw [← h4, Int.toNat_natCast, extract_end]
  rfl
theorem asB_len (l : List (List UInt8)) : (asB l).length = l.length := by simp [asB]
theorem asB_rd {l : List (List UInt8)} {i : Nat} (h : i < l.length) : rdOf ByteArray.empty (asB l) (i : Int) = ⟨(l[i]).toArray⟩ := by
 unfold rdOf asB
 rw [Int.toNat_natCast, List.getD_eq_getElem?_getD, List.getElem?_map, List.getElem?_eq_getElem h]
 rfl
theorem asB_size (l : List UInt8) : (⟨l.toArray⟩ : ByteArray).size = l.length := by simp [ByteArray.size]
theorem cuts_mem (c : UInt8) : ∀ (l : List UInt8) (p : List UInt8), p ∈ cuts c l → p.length ≤ l.length
 | [], p, h => by simp [cuts] at h; simp [h]
 | x :: r, p, h => by
  have ih := cuts_mem c r
  unfold cuts at h
  split at h
  ·
   rcases List.mem_cons.1 h with rfl | h
   · simp
   · have := ih p h; simp; omega
  ·
   split at h
   ·
    rename_i a t e
    rcases List.mem_cons.1 h with rfl | h
    · have := ih a (by rw [e]; simp); simp; omega
    · have := ih p (by rw [e]; simp [h]); simp; omega
   ·
    obtain rfl := List.mem_singleton.1 h
    simp
def u8 (n : Int) : UInt8 := UInt8.ofNat n.toNat
theorem u8_nat {n : Int} (h0 : 0 ≤ n) (h1 : n ≤ 255) : ((u8 n).toNat : Int) = n := by
 have h : (UInt8.ofNat n.toNat).toNat = n.toNat % 256 := rfl
 unfold u8
 rw [h]
 omega
theorem rowN_get (q : Sq) (y : Nat) : ∀ (d x j : Nat) (h : j < (rowN q y d x).length), (rowN q y d x)[j] = chrN q (y : Int) ((x + j : Nat) : Int)
 | 0, x, j, h => absurd h (by simp [rowN])
 | d + 1, x, 0, h => rfl
 | d + 1, x, j + 1, h => by
  have := rowN_get q y d (x + 1) j (by rw [rowN_len] at h ⊢; omega)
  rw [show x + (j + 1) = x + 1 + j by omega, ← this]
  rfl
def rowL (q : Sq) (W y : Nat) : List UInt8 := (rowN q y W 0).map u8
def rowsL (q : Sq) (W : Nat) : Nat → Nat → List (List UInt8)
 | 0, _ => [[]]
 | d + 1, y => rowL q W y :: rowsL q W d (y + 1)
theorem rowsL_len (q : Sq) (W : Nat) : ∀ d y, (rowsL q W d y).length = d + 1
 | 0, _ => rfl
 | d + 1, y => by rw [rowsL, List.length_cons, rowsL_len q W d]
theorem rowsL_get (q : Sq) (W : Nat) : ∀ (d y i : Nat) (h : i < (rowsL q W d y).length), (rowsL q W d y)[i] = if i = d then [] else rowL q W (y + i)
 | 0, y, i, h => by
  obtain rfl : i = 0 := by rw [rowsL_len] at h; omega
  rfl
 | d + 1, y, 0, h => rfl
 | d + 1, y, i + 1, h => by
  have := rowsL_get q W d (y + 1) i (by rw [rowsL_len] at h ⊢; omega)
  show (rowsL q W d (y + 1))[i]'(by rw [rowsL_len] at h ⊢; omega) = _
  rw [this, show y + 1 + i = y + (i + 1) by omega]
  by_cases e : i = d
  · rw [if_pos e, if_pos (by omega)]
  · rw [if_neg e, if_neg (by omega)]
section
variable {q : Sq} {W H : Nat} (V : Val W H q.f2)
include V
theorem chr_of (y x : Nat) : chrN q (y : Int) (x : Int) = chrC (coverAt q.f2 (y : Int) (x : Int)) ∧ 46 ≤ chrN q (y : Int) (x : Int) ∧ chrN q (y : Int) (x : Int) ≤ 122 := by
 have e : chrN q (y : Int) (x : Int) = chrC (coverAt q.f2 (y : Int) (x : Int)) := rfl
 have hc := cov_range V (y : Int) (x : Int)
 have hl := V.len
 have := chr_byte (coverAt q.f2 (y : Int) (x : Int)) (by omega)
 exact ⟨e, by rw [e]; exact this.1, by rw [e]; exact this.2⟩
theorem row_no (y : Nat) : (10 : UInt8) ∉ rowL q W y := by
 intro h
 unfold rowL at h
 obtain ⟨n, hn, e⟩ := List.mem_map.1 h
 obtain ⟨j, hj, rfl⟩ := List.getElem_of_mem hn
 rw [rowN_get] at e
 have hb := (chr_of V y (0 + j)).2
 have := u8_nat (n := chrN q (y : Int) ((0 + j : Nat) : Int)) (by omega) (by omega)
 rw [e] at this
 have h10 : (((10 : UInt8).toNat : Nat) : Int) = 10 := rfl
 omega
theorem text_cuts : ∀ d y, cuts 10 ((rowsN q W d y).map u8) = rowsL q W d y
 | 0, _ => rfl
 | d + 1, y => by
  rw [rowsN, List.map_append, List.map_cons, show u8 10 = 10 from rfl]
  show cuts 10 (rowL q W y ++ 10 :: _) = _
  rw [cuts_hit (row_no V y), text_cuts d (y + 1)]
  rfl
theorem good_of (hW : q.f0 = W) (hH : q.f1 = H) {a0 : ByteArray} (h : a0.data.toList = (textN q).map u8) :
  (asB (cuts 10 a0.data.toList)).length = H + 1 ∧ Good (asB (cuts 10 a0.data.toList)) W H q.f2 ∧ rw_ (asB (cuts 10 a0.data.toList)) H = ⟨#[]⟩ := by
 have e : cuts 10 a0.data.toList = rowsL q W H 0 := by
  rw [h]
  unfold textN
  rw [show q.f0.toNat = W by omega, show q.f1.toNat = H by omega]
  exact text_cuts V H 0
 rw [e]
 have row : ∀ y : Nat, y < H → rdOf ByteArray.empty (asB (rowsL q W H 0)) (y : Int) = ⟨(rowL q W y).toArray⟩ := by
  intro y hy
  rw [asB_rd (by rw [rowsL_len]; omega), rowsL_get, if_neg (by omega), Nat.zero_add]
 have len : ∀ y, (rowL q W y).length = W := fun y => by unfold rowL; rw [List.length_map, rowN_len]
 refine ⟨by rw [asB_len, rowsL_len], ⟨fun y hy => ?_, fun y x hy hx => ?_⟩, ?_⟩
 · rw [row y hy, asB_size, len]
 ·
  rw [row y hy, bt_nat (by rw [asB_size, len]; exact hx)]
  show (((rowL q W y)[x]'(by rw [len]; exact hx)).toNat : Int) = _
  unfold rowL
  rw [List.getElem_map, rowN_get, Nat.zero_add, ← (chr_of V y x).1]
  have := (chr_of V y x).2
  exact u8_nat (by omega) (by omega)
 ·
  unfold rw_
  rw [asB_rd (by rw [rowsL_len]; omega), rowsL_get, if_pos rfl]
end
abbrev Ans := Int × Int × List Sl × Int
def rowsOf (a0 : ByteArray) : List ByteArray := asB (cuts 10 a0.data.toList)
def wideOf (a0 : ByteArray) : Nat := (rw_ (rowsOf a0) 0).size
def highOf (a0 : ByteArray) : Nat := (rowsOf a0).length - 1
def readI (a0 : ByteArray) : Sq := ⟨(wideOf a0 : Int), (highOf a0 : Int), Rs.gather (Rs.gridM (rowsOf a0) (wideOf a0) (highOf a0)) 60⟩
def fits (a0 : ByteArray) : Prop := (1 ≤ wideOf a0 ∧ wideOf a0 ≤ 12) ∧ 1 ≤ highOf a0 ∧ highOf a0 ≤ 12
instance (a0 : ByteArray) : Decidable (fits a0) := inferInstanceAs (Decidable ((1 ≤ wideOf a0 ∧ wideOf a0 ≤ 12) ∧ 1 ≤ highOf a0 ∧ highOf a0 ≤ 12))
def errA : Ans := (0, 0, [], 5)
def valI (a0 : ByteArray) : Ans := if fits a0 then (if (if sqB (readI a0) = true then strOfNums (textN (readI a0)) else ⟨#[]⟩ : ByteArray).toList = a0.toList then ((wideOf a0 : Int), (highOf a0 : Int), (readI a0).f2, 0) else errA) else errA
def valS (a0 : ByteArray) : Ans := if (rw_ (rowsOf a0) (highOf a0)).toList = [] ∧ fits a0 then fin a0 (wideOf a0) (highOf a0) (gridS (rowsOf a0) (wideOf a0) (highOf a0) (highOf a0) 0 []) else errA
theorem rows_pos (a0 : ByteArray) : 1 ≤ (rowsOf a0).length := by
 unfold rowsOf
 rw [asB_len]
 exact List.length_pos_iff.2 (cuts_ne _ _)
theorem rows_le (a0 : ByteArray) : (rowsOf a0).length ≤ a0.size + 1 := by
 unfold rowsOf
 rw [asB_len]
 have := cuts_len 10 a0.data.toList
 rw [size_toList] at this
 exact this
theorem wide_le (a0 : ByteArray) : wideOf a0 ≤ a0.size := by
 unfold wideOf rw_
 have hp : 0 < (cuts 10 a0.data.toList).length := List.length_pos_iff.2 (cuts_ne _ _)
 have := asB_rd (l := cuts 10 a0.data.toList) (i := 0) hp
 unfold rowsOf
 rw [this, asB_size]
 have h := cuts_mem 10 a0.data.toList _ (List.getElem_mem hp)
 rw [size_toList] at h
 exact h
theorem open_val (W H : Nat) : impl_OpenSquare.f (W : Int) (H : Int) = some (if (1 ≤ W ∧ W ≤ 12) ∧ 1 ≤ H ∧ H ≤ 12 then ((W : Int), (H : Int), [], 0) else (0, 0, [], 2)) := by
 unfold impl_OpenSquare.f
 rw [isEdge_val, Option.bind_some, isEdge_val]
 by_cases h1 : inB (W : Int) 1 12 = true
 ·
  rw [if_pos h1, Option.bind_some]
  have a := inB_iff.1 h1
  by_cases h2 : inB (H : Int) 1 12 = true
  ·
   have b := inB_iff.1 h2
   rw [if_pos h2, if_pos (by omega), i8w ⟨by omega, by omega⟩, i8w ⟨by omega, by omega⟩]
  · rw [if_neg h2, if_neg (by rw [inB_iff] at h2; omega)]
 · rw [if_neg h1, if_neg (by rw [inB_iff] at h1; omega)]
theorem impl_val (a0 : ByteArray) (hs : a0.size ≤ 1048576) : Ev (fun k => impl_ReadSquare.f k a0) (valI a0) := by
 have hp := rows_pos a0
 have hl := rows_le a0
 have hsp : strings_Split.f a0 ⟨#[10]⟩ = some (rowsOf a0) := by
  unfold strings_Split.f rowsOf
  rw [if_pos ⟨by omega, by decide⟩, splitB_cuts]
 unfold impl_ReadSquare.f
 refine Ev.call hsp ?_
 have eh : wrap64 (((rowsOf a0).length : Int) - 1) = (highOf a0 : Int) := by
  unfold highOf
  rw [w64 (by omega) (by omega)]
  omega
 rw [eh]
 refine Ev.call (open_val (wideOf a0) (highOf a0)) ?_
 by_cases hf : fits a0
 ·
  obtain ⟨f1, f2⟩ := id hf
  have e1 : (if (1 ≤ wideOf a0 ∧ wideOf a0 ≤ 12) ∧ 1 ≤ highOf a0 ∧ highOf a0 ≤ 12 then ((wideOf a0 : Int), (highOf a0 : Int), ([] : List Sl), (0 : Int)) else (0, 0, [], 2)) = ((wideOf a0 : Int), (highOf a0 : Int), ([] : List Sl), (0 : Int)) := if_pos ⟨f1, f2⟩
  rw [e1]
  have hh : highOf a0 = (rowsOf a0).length - 1 := rfl
  have hq : smallQ (readI a0) := by
   have hg := Rs.gather_len (Rs.gridM (rowsOf a0) (wideOf a0) (highOf a0)) 60
   refine ⟨⟨?_, ?_⟩, ⟨?_, ?_⟩, ?_, gather_small (grid_small _ _ _) 60⟩
   · show -128 ≤ (wideOf a0 : Int); omega
   · show (wideOf a0 : Int) ≤ 127; omega
   · show -128 ≤ (highOf a0 : Int); omega
   · show (highOf a0 : Int) ≤ 127; omega
   · show (Rs.gather (Rs.gridM (rowsOf a0) (wideOf a0) (highOf a0)) 60).length ≤ _; omega
  refine Ev.ite_pos rfl (Ev.ite_pos ⟨hs, by omega, by omega, f1.2, rfl, rfl, by show (highOf a0 : Int) = _; omega⟩ ?_)
  refine Ev.bind (implText (readI a0) hq) ?_
  unfold valI
  rw [if_pos hf]
  exact Ev.if_ (fun c => Ev.ite_pos c (Ev.now _)) (fun c => Ev.ite_neg c (Ev.now _))
 ·
  have e1 : (if (1 ≤ wideOf a0 ∧ wideOf a0 ≤ 12) ∧ 1 ≤ highOf a0 ∧ highOf a0 ≤ 12 then ((wideOf a0 : Int), (highOf a0 : Int), ([] : List Sl), (0 : Int)) else (0, 0, [], 2)) = (0, 0, [], 2) := if_neg hf
  rw [e1]
  unfold valI
  rw [if_neg hf]
  exact Ev.ite_neg (by decide) (Ev.ite_pos (by omega) (Ev.now _))
theorem spec_val (a0 : ByteArray) (hs : a0.size ≤ 1048576) : Ev (fun k => spec_ReadSquare.f k a0) (valS a0) := by
 have hp := rows_pos a0
 have hl := rows_le a0
 have hw := wide_le a0
 have hh : highOf a0 = (rowsOf a0).length - 1 := rfl
 unfold spec_ReadSquare.f
 refine Ev.bind (specSplit a0 10 (by omega)) ?_
 show Ev (fun k => if 0 < ((rowsOf a0).length : Int) then _ else _) _
 have eh : wrap64 (((rowsOf a0).length : Int) - 1) = (highOf a0 : Int) := by
  rw [w64 (by omega) (by omega)]
  omega
 show Ev (fun k => if 0 < ((rowsOf a0).length : Int) then (if 0 ≤ (wrap64 (((rowsOf a0).length : Int) - 1)) then (if (wrap64 (((rowsOf a0).length : Int) - 1)) < ((rowsOf a0).length : Int) then (if (rdOf ByteArray.empty (rowsOf a0) (wrap64 (((rowsOf a0).length : Int) - 1))).toList = ([] : List UInt8) then ((spec_l01Edge.f (wrap64 (((rowsOf a0).length : Int) - 1))).bind fun t160 => (if t160 = true then ((spec_l01Edge.f ((rdOf ByteArray.empty (rowsOf a0) 0).size : Int)).bind fun t161 => (spec_ReadSquare.j0 k a0 (rowsOf a0) (wrap64 (((rowsOf a0).length : Int) - 1)) ((rdOf ByteArray.empty (rowsOf a0) 0).size : Int) (!t161))) else (spec_ReadSquare.j0 k a0 (rowsOf a0) (wrap64 (((rowsOf a0).length : Int) - 1)) ((rdOf ByteArray.empty (rowsOf a0) 0).size : Int) true))) else (spec_ReadSquare.j0 k a0 (rowsOf a0) (wrap64 (((rowsOf a0).length : Int) - 1)) ((rdOf ByteArray.empty (rowsOf a0) 0).size : Int) true)) else (none)) else (none)) else (none)) _
 rw [eh]
 have no : ∀ W H : Int, Ev (fun k => spec_ReadSquare.j0 k a0 (rowsOf a0) H W true) errA := fun W H => Ev.step (fun k => spec_ReadSquare.j0.eq_2 _ _ _ _ _ _) (Ev.ite_pos rfl (Ev.now _))
 unfold valS
 refine Ev.ite_pos (by omega) (Ev.ite_pos (by omega) (Ev.ite_pos (by omega) ?_))
 by_cases hlast : (rw_ (rowsOf a0) (highOf a0)).toList = []
 ·
  refine Ev.ite_pos hlast (Ev.call (edge_val _) ?_)
  by_cases h1 : inB (highOf a0 : Int) 1 12 = true
  ·
   have a := inB_iff.1 h1
   refine Ev.ite_pos h1 (Ev.call (edge_val _) ?_)
   by_cases h2 : inB (wideOf a0 : Int) 1 12 = true
   ·
    have b := inB_iff.1 h2
    rw [if_pos ⟨hlast, ⟨by omega, by omega⟩, by omega, by omega⟩]
    show Ev (fun k => spec_ReadSquare.j0 k a0 (rowsOf a0) (highOf a0 : Int) (wideOf a0 : Int) (!inB (wideOf a0 : Int) 1 12)) _
    rw [h2]
    refine Ev.step (fun k => spec_ReadSquare.j0.eq_2 _ _ _ _ _ _) (Ev.ite_neg (by decide) ?_)
    rw [i8n (by omega), i8n (by omega)]
    exact specGrid (by omega) (by omega) (by omega) (highOf a0) 0 [] (by omega) (Nat.zero_le _) (fun s hs => by cases hs)
   ·
    show Ev (fun k => spec_ReadSquare.j0 k a0 (rowsOf a0) (highOf a0 : Int) (wideOf a0 : Int) (!inB (wideOf a0 : Int) 1 12)) _
    rw [Bool.not_eq_true] at h2
    rw [h2, if_neg (by rw [inB_no] at h2; unfold fits; omega)]
    exact no _ _
  ·
   rw [if_neg (by rw [inB_iff] at h1; unfold fits; omega)]
   exact Ev.ite_neg h1 (no _ _)
 ·
  rw [if_neg (fun h => hlast h.1)]
  exact Ev.ite_neg hlast (no _ _)
theorem strOfNums_list (xs : List Int) : (strOfNums xs).data.toList = xs.map u8 := rfl
theorem bytes_toList (s : ByteArray) : s.toList = s.data.toList := ByteArray.toList_eq s
theorem same (a0 : ByteArray) : valS a0 = valI a0 := by
 by_cases hf : fits a0
 ·
  have hf' := hf
  obtain ⟨f1, f2⟩ := hf'
  by_cases hq : ∃ q : Sq, sqB q = true ∧ q.f0 = (wideOf a0 : Int) ∧ q.f1 = (highOf a0 : Int) ∧ (strOfNums (textN q)).toList = a0.toList
  ·
   obtain ⟨q, hv, hW, hH, ht⟩ := hq
   have V := val_of hv hW hH
   have ht2 : a0.data.toList = (textN q).map u8 := by
    rw [← strOfNums_list, ← bytes_toList, ← bytes_toList]
    exact ht.symm
   obtain ⟨g1, g2, g3⟩ := good_of V hW hH ht2
   have eI : readI a0 = q := by
    unfold readI
    rw [show rowsOf a0 = asB (cuts 10 a0.data.toList) from rfl, impl_reads V g2, ← hW, ← hH]
   have eS : gridS (rowsOf a0) (wideOf a0) (highOf a0) (highOf a0) 0 [] = some q.f2 := spec_reads V g2
   have eq : (⟨(wideOf a0 : Int), (highOf a0 : Int), q.f2⟩ : Sq) = q := by rw [← hW, ← hH]
   unfold valS valI
   rw [if_pos ⟨by rw [show rowsOf a0 = asB (cuts 10 a0.data.toList) from rfl, g3]; exact (bytes_toList _).trans rfl, hf⟩, if_pos hf, eS, eI, if_pos hv, if_pos ht]
   show (if _ then _ else _) = _
   rw [eq, if_pos ⟨hv, ht⟩]
  ·
   have hI : valI a0 = errA := by
    unfold valI
    rw [if_pos hf, if_neg]
    intro ht
    by_cases hv : sqB (readI a0) = true
    ·
     rw [if_pos hv] at ht
     exact hq ⟨readI a0, hv, rfl, rfl, ht⟩
    ·
     rw [if_neg hv] at ht
     have hz : a0.size = 0 := by
      have : a0.data.toList = [] := by rw [← bytes_toList, ← ht]; exact (bytes_toList _).trans rfl
      rw [← size_toList, this]
      rfl
     have := wide_le a0
     omega
   rw [hI]
   unfold valS
   split
   ·
    cases gridS (rowsOf a0) (wideOf a0) (highOf a0) (highOf a0) 0 [] with
    | none => rfl
    | some L =>
     show (if _ then _ else _) = _
     rw [if_neg]
     · rfl
     ·
      rintro ⟨h1, h2⟩
      exact hq ⟨_, h1, rfl, rfl, h2⟩
   · rfl
 ·
  unfold valS valI
  rw [if_neg (fun h => hf h.2), if_neg hf]
theorem ite_len {c : Prop} [Decidable c] {a b : Ans} (ha : a.2.2.1.length ≤ 60) (hb : b.2.2.1.length ≤ 60) : (if c then a else b).2.2.1.length ≤ 60 := by
 split
 · exact ha
 · exact hb
theorem val_len (a0 : ByteArray) : (valI a0).2.2.1.length ≤ 60 := ite_len (ite_len (Rs.gather_len (Rs.gridM (rowsOf a0) (wideOf a0) (highOf a0)) 60) (Nat.zero_le _)) (Nat.zero_le _)
end Rq
end Go.Proofs.YteinapckfhpdkaaDoor.Q

namespace Go.Proofs.YteinapckfhpdkaaDoor.Q
open Go.RowKit Go.Proofs.YteinapckfhpdkaaDoorW.PrintWords Go.Proofs.YteinapckfhpdkaaDoorW.PrintLast Go.Proofs.YteinapckfhpdkaaDoorW.PrintMore
set_option linter.unusedSimpArgs false
def markAt (i : Nat) : S36 := ⟨IntKind.i8.wrap (1 + 4 * (i : Int)), IntKind.i8.wrap (1 + 4 * (i : Int) + 1), IntKind.i8.wrap (1 + 4 * (i : Int) + 1 + 1), IntKind.i8.wrap (1 + 4 * (i : Int) + 1 + 1 + 1)⟩
def markedSlabs (n : Nat) : List S36 := (List.range n).map markAt
theorem rdI_set {l : List S36} {i : Nat} {x : S36} (h : i < l.length) : rd_T36 (l.set i x) (i : Int) = x := by
 rw [rdI_get (by simpa using h)]
 simp
theorem markSlabs (l : List S36) (h : l.length ≤ 1125899906842624) : Ev (fun k => laws_markSlabS.f k l 1) (1 + 4 * (l.length : Int), markedSlabs l.length) := by
 unfold laws_markSlabS.f
 have hm : (markedSlabs l.length).length = l.length := by simp [markedSlabs]
 have h0 := Ev.run (L := fun k (s : List S36) (i : Nat) => laws_markSlabS.l0 k s (1 + 4 * (i : Int)) i) l.length (fun i s => s.set i (markAt i)) (fun i s => s.length = l.length ∧ s.take i = (markedSlabs l.length).take i) (1 + 4 * (l.length : Int), markedSlabs l.length) ?_ ?_ (d := l.length) (i := 0) (s := l) (by omega) ⟨rfl, by simp⟩
 · simpa using h0
 ·
  rintro i s hi ⟨h1, h2⟩
  refine ⟨⟨by simpa using h1, ?_⟩, fun r hr => Ev.step (fun k => laws_markSlabS.l0.eq_2 _ _ _ _) ?_⟩
  ·
   show (s.set i (markAt i)).take (i + 1) = _
   rw [show markAt i = (markedSlabs l.length)[i]'(by omega) by simp [markedSlabs]]
   exact take_set_succ (by omega) (by omega) h2
  ·
   refine Ev.ite_pos (by omega) (Ev.ite_pos (ge0 _) (Ev.call rfl (Ev.call rfl (Ev.call rfl ?_))))
   rw [w64_succ (by omega), Int.toNat_natCast, w64 (x := 1 + 4 * (i : Int) + 1) (by omega) (by omega), w64 (x := 1 + 4 * (i : Int) + 1 + 1) (by omega) (by omega), w64 (x := 1 + 4 * (i : Int) + 1 + 1 + 1) (by omega) (by omega), w64 (x := 1 + 4 * (i : Int) + 1 + 1 + 1 + 1) (by omega) (by omega)]
   rw [rdI_set, rdI_set, rdI_set, List.set_set, List.set_set, List.set_set]
   ·
    rw [show (1 + 4 * (i : Int) + 1 + 1 + 1 + 1) = 1 + 4 * ((i + 1 : Nat) : Int) by omega]
    exact hr
   all_goals first | omega | (simp only [List.length_set]; omega)
 ·
  rintro s ⟨h1, h2⟩
  refine Ev.step (fun k => laws_markSlabS.l0.eq_2 _ _ _ _) (Ev.ite_neg (by omega) ?_)
  rw [List.take_of_length_le (by omega), List.take_of_length_le (by omega)] at h2
  rw [h2]
  exact Ev.now _
theorem heldSlabs (n : Nat) (h : n ≤ 1125899906842624) : Ev (fun k => laws_heldSlabS.f k (markedSlabs n) 1) (1 + 4 * (n : Int)) := by
 unfold laws_heldSlabS.f
 have hm : (markedSlabs n).length = n := by simp [markedSlabs]
 have h0 := Ev.run (L := fun k (_ : Unit) (i : Nat) => laws_heldSlabS.l0 k (markedSlabs n) (1 + 4 * (i : Int)) i) n (fun _ s => s) (fun _ _ => True) (1 + 4 * (n : Int)) ?_ ?_ (d := n) (i := 0) (s := ()) (by omega) trivial
 · simpa using h0
 ·
  rintro i s hi _
  refine ⟨trivial, fun r hr => Ev.step (fun k => laws_heldSlabS.l0.eq_2 _ _ _ _) ?_⟩
  have hg : rd_T36 (markedSlabs n) i = markAt i := by
   rw [rdI_get (by omega)]
   simp [markedSlabs]
  rw [w64_succ (by omega), w64 (x := 1 + 4 * (i : Int) + 1) (by omega) (by omega), w64 (x := 1 + 4 * (i : Int) + 1 + 1) (by omega) (by omega), w64 (x := 1 + 4 * (i : Int) + 1 + 1 + 1) (by omega) (by omega), w64 (x := 1 + 4 * (i : Int) + 1 + 1 + 1 + 1) (by omega) (by omega), hg]
  refine Ev.ite_pos (by omega) (Ev.ite_pos (ge0 _) (Ev.ite_pos rfl (Ev.ite_pos rfl (Ev.ite_pos rfl (Ev.ite_pos rfl ?_)))))
  rw [show (1 + 4 * (i : Int) + 1 + 1 + 1 + 1) = 1 + 4 * ((i + 1 : Nat) : Int) by omega]
  exact hr
 ·
  intro s _
  exact Ev.step (fun k => laws_heldSlabS.l0.eq_2 _ _ _ _) (Ev.ite_neg (by omega) (Ev.now _))
end Go.Proofs.YteinapckfhpdkaaDoor.Q

namespace Go.Proofs.YteinapckfhpdkaaDoor.Q
open Go.RowKit Go.Proofs.YteinapckfhpdkaaDoorW.PrintWords Go.Proofs.YteinapckfhpdkaaDoorW.PrintLast Go.Proofs.YteinapckfhpdkaaDoorW.PrintMore
set_option linter.unusedVariables false
set_option linter.unusedSimpArgs false
theorem markSq (q : Sq) (h : q.f2.length ≤ 1125899906842624) : Ev (fun k => laws_markSquare.f k q.f0 q.f1 q.f2 1) (1 + 4 * (q.f2.length : Int), markedSlabs q.f2.length) := by
 unfold laws_markSquare.f
 exact Ev.bind (markSlabs q.f2 h) (Ev.now _)
theorem heldSq (a b : Int) (n : Nat) (h : n ≤ 1125899906842624) : Ev (fun k => laws_heldSquare.f k a b (markedSlabs n) 1) (1 + 4 * (n : Int)) := by
 unfold laws_heldSquare.f
 exact Ev.bind (heldSlabs n h) (Ev.ite_neg (by omega) (Ev.now _))
end Go.Proofs.YteinapckfhpdkaaDoor.Q

namespace Go.Proofs.YteinapckfhpdkaaDoor.Q
open Go.RowKit Go.Proofs.YteinapckfhpdkaaDoorW.PrintWords Go.Proofs.YteinapckfhpdkaaDoorW.PrintLast Go.Proofs.YteinapckfhpdkaaDoorW.PrintMore
set_option linter.unusedVariables false
set_option linter.unusedSimpArgs false
def Pure.FnExactReadSquare : Prop := ∀ (x0 : ByteArray), x0.size ≤ maxLen → ∃ k, laws_FnExactReadSquare.f k x0 = some true
theorem pure_FnExactReadSquare : Pure.FnExactReadSquare := by
  rintro s hs
  refine Ev.rounds (g := fun k => laws_FnExactReadSquare.f k s) ?_
  unfold laws_FnExactReadSquare.f
  by_cases h : (s.size : Int) > 1048576
  · exact Ev.ite_pos h (Ev.now _)
  · refine Ev.ite_neg h ?_
    have hS := Rq.spec_val s (by omega)
    have hI := Rq.impl_val s (by omega)
    have hlen := Rq.val_len s
    rw [Rq.same] at hS
    generalize Rq.valI s = R at *
    obtain ⟨w, hh, l, c⟩ := R
    simp only at hlen
    have eq := eqSq (⟨w, hh, l⟩ : Sq) (by show l.length ≤ _; omega)
    have mk := markSq (⟨w, hh, l⟩ : Sq) (by show l.length ≤ _; omega)
    have hd := heldSq w hh l.length (by omega)
    refine Ev.bind hS (Ev.bind hI (Ev.bind eq (Ev.ite_pos rfl ?_)))
    rw [show ((w, hh, l, c) : Int × Int × List S36 × Int).2.2.2 = c from rfl, show (c != c) = false by simp]
    refine Ev.step (fun k => laws_FnExactReadSquare.j0.eq_2 _ _ _ _ _ _ _ _ _ _) (Ev.ite_neg (by decide) (Ev.bind mk (Ev.bind hd (Ev.ite_neg (by omega) (Ev.ite_pos rfl (Ev.bind hI (Ev.bind eq (Ev.ite_pos rfl ?_))))))))
    rw [show ((w, hh, l, c) : Int × Int × List S36 × Int).2.2.2 = c from rfl, show (c != c) = false by simp]
    exact Ev.step (fun k => laws_FnExactReadSquare.j1.eq_2 _ _ _ _ _ _) (Ev.ite_neg (by decide) (Ev.bind hd (Ev.ite_neg (by omega) (Ev.ite_pos rfl (Ev.now _)))))
end Go.Proofs.YteinapckfhpdkaaDoor.Q

