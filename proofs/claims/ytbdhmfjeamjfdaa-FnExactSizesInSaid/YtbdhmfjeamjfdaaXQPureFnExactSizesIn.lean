-- Trimmed by a program.
import Derived.Test.YtbdhmfjeamjfdaaXQ0
import Derived.Test.YtbdhmfjeamjfdaaXQHSlab
import Derived.Test.YtbdhmfjeamjfdaaXQ7
import Derived.Test.YtbdhmfjeamjfdaaXQ1
import Derived.Test.YtbdhmfjeamjfdaaXQ4
import Derived.Test.YtbdhmfjeamjfdaaXQ2
import Derived.Test.YtbdhmfjeamjfdaaXQ3
import Derived.Test.YtbdhmfjeamjfdaaXQ11
import Derived.Test.YtbdhmfjeamjfdaaXQ9
import Derived.Test.YtbdhmfjeamjfdaaXQ8
import Derived.Test.YtbdhmfjeamjfdaaXQ10
import Derived.Test.YtbdhmfjeamjfdaaXQHSquare
import Derived.Test.YtbdhmfjeamjfdaaXQOpn
import Derived.Test.YtbdhmfjeamjfdaaXQ5
import Derived.Test.YtbdhmfjeamjfdaaXQ6
import Derived.Test.YtbdhmfjeamjfdaaXQHInts
import Derived.Test.YtbdhmfjeamjfdaaXQLawSizesIn
import Derived.Test.YtbdhmfjeamjfdaaXQWs
namespace Go.Proofs.Ytbdhmfjeamjfdaa.Q
open Go.RowKit Go.Proofs.YtbdhmfjeamjfdaaW.PrintWords Go.Proofs.YtbdhmfjeamjfdaaW.PrintLast Go.Proofs.YtbdhmfjeamjfdaaW.PrintMore
theorem w64 {x : Int} (h0 : -9223372036854775808 ≤ x) (h1 : x ≤ 9223372036854775807) : wrap64 x = x := by
 unfold wrap64
 omega
theorem w64_succ {i : Nat} (h : i ≤ 4611686018427387904) : wrap64 ((i : Int) + 1) = ((i + 1 : Nat) : Int) := by
 rw [w64 (by omega) (by omega)]
 omega
theorem rd_get {l : List Int} {i : Nat} (h : i < l.length) : rd l (i : Int) = l[i] := by
 unfold rd
 rw [Int.toNat_natCast, List.getD_eq_getElem?_getD, List.getElem?_eq_getElem h]
 rfl
theorem ge0 (i : Nat) : (0 : Int) ≤ (i : Int) := Int.natCast_nonneg i
theorem Ev.ite_pos {α : Type} {c : Prop} [Decidable c] {f g : Nat → Option α} {r : α} (hc : c) (h : Ev f r) : Ev (fun k => if c then f k else g k) r := Ev.congr (fun _ => if_pos hc) h
theorem Ev.ite_neg {α : Type} {c : Prop} [Decidable c] {f g : Nat → Option α} {r : α} (hc : ¬ c) (h : Ev g r) : Ev (fun k => if c then f k else g k) r := Ev.congr (fun _ => if_neg hc) h
theorem Ev.call {α β : Type} {o : Option α} {f : Nat → α → Option β} {a : α} {r : β} (h : o = some a) (k : Ev (fun n => f n a) r) : Ev (fun n => o.bind (f n)) r := Ev.bind (g := fun _ => o) ⟨0, fun _ _ => h⟩ k
theorem Ev.eq_ {α : Type} {g : Nat → Option α} {a b : α} (h : Ev g a) (e : a = b) : Ev g b := e ▸ h
def loopV {σ ρ : Type} (c : Nat → σ → Bool) (f : Nat → σ → σ) (e : Nat → σ → ρ) (z : σ → ρ) : Nat → Nat → σ → ρ
 | 0, _, s => z s
 | d + 1, i, s => if c i s = true then loopV c f e z d (i + 1) (f i s) else e i s
theorem Ev.loop {σ ρ : Type} {L : Nat → σ → Nat → Option ρ} (n : Nat) (c : Nat → σ → Bool) (f : Nat → σ → σ) (e : Nat → σ → ρ) (z : σ → ρ) (Inv : Nat → σ → Prop)
  (hgo : ∀ i s, i < n → Inv i s → c i s = true → Inv (i + 1) (f i s) ∧ ∀ r, Ev (fun k => L k (f i s) (i + 1)) r → Ev (fun k => L k s i) r)
  (hout : ∀ i s, i < n → Inv i s → c i s = false → Ev (fun k => L k s i) (e i s))
  (hend : ∀ s, Inv n s → Ev (fun k => L k s n) (z s)) :
  ∀ d i s, i + d = n → Inv i s → Ev (fun k => L k s i) (loopV c f e z d i s) := by
 intro d
 induction d with
 | zero =>
  intro i s hi hs
  obtain rfl : i = n := by omega
  exact hend s hs
 | succ d ih =>
  intro i s hi hs
  unfold loopV
  by_cases hc : c i s = true
  ·
   rw [if_pos hc]
   obtain ⟨h1, h2⟩ := hgo i s (by omega) hs hc
   exact h2 _ (ih (i + 1) (f i s) (by omega) h1)
  ·
   rw [if_neg hc]
   exact hout i s (by omega) hs (by simpa using hc)
theorem loopV_const {σ ρ : Type} {c : Nat → σ → Bool} {f : Nat → σ → σ} {e : Nat → σ → ρ} {z : σ → ρ} {r : ρ} (hc : ∀ i s, c i s = true) (hz : ∀ s, z s = r) : ∀ d i s, loopV c f e z d i s = r
 | 0, _, s => hz s
 | d + 1, i, s => by
  unfold loopV
  rw [if_pos (hc i s)]
  exact loopV_const hc hz d (i + 1) (f i s)
theorem Ev.run {σ ρ : Type} {L : Nat → σ → Nat → Option ρ} (n : Nat) (f : Nat → σ → σ) (Inv : Nat → σ → Prop) (r : ρ)
  (hgo : ∀ i s, i < n → Inv i s → Inv (i + 1) (f i s) ∧ ∀ r, Ev (fun k => L k (f i s) (i + 1)) r → Ev (fun k => L k s i) r)
  (hend : ∀ s, Inv n s → Ev (fun k => L k s n) r) {d i : Nat} {s : σ} (hi : i + d = n) (hs : Inv i s) : Ev (fun k => L k s i) r := by
 have h := Ev.loop (L := L) n (fun _ _ => true) f (fun _ _ => r) (fun _ => r) Inv (fun i s hi hs _ => hgo i s hi hs) (fun _ _ _ _ h => by cases h) hend d i s hi hs
 rwa [loopV_const (fun _ _ => rfl) (fun _ => rfl)] at h
theorem Ev.all {α ρ : Type} {L : Nat → Nat → Option ρ} (l : List α) (p : α → Bool) (re rf : ρ)
  (hgo : ∀ i (h : i < l.length), p l[i] = true → ∀ r, Ev (fun k => L k (i + 1)) r → Ev (fun k => L k i) r)
  (hout : ∀ i (h : i < l.length), p l[i] = false → Ev (fun k => L k i) rf)
  (hend : Ev (fun k => L k l.length) re) : Ev (fun k => L k 0) (if l.all p = true then re else rf) := by
 have key : ∀ d i, i + d = l.length → Ev (fun k => L k i) (if (l.drop i).all p = true then re else rf) := by
  intro d
  induction d with
  | zero =>
   intro i hi
   obtain rfl : i = l.length := by omega
   simpa using hend
  | succ d ih =>
   intro i hi
   have hlt : i < l.length := by omega
   rw [List.drop_eq_getElem_cons hlt, List.all_cons]
   by_cases hp : p l[i] = true
   ·
    rw [hp, Bool.true_and]
    exact hgo i hlt hp _ (ih (i + 1) (by omega))
   ·
    have hp' : p l[i] = false := by simpa using hp
    rw [hp', Bool.false_and, if_neg (by decide)]
    exact hout i hlt hp'
 have h := key l.length 0 (by omega)
 simpa using h
theorem take_set_succ {α : Type} {s l : List α} {i : Nat} (hl : s.length = l.length) (hi : i < l.length) (ht : s.take i = l.take i) : (s.set i l[i]).take (i + 1) = l.take (i + 1) := by
 rw [List.take_succ_eq_append_getElem (by simpa [hl] using hi), List.take_succ_eq_append_getElem hi, List.take_set_of_le (Nat.le_refl _), ht]
 simp
def findFrom {α : Type} (p : α → Bool) : Nat → List α → Int
 | _, [] => -1
 | i, x :: xs => if p x = true then (i : Int) else findFrom p (i + 1) xs
theorem findFrom_ge {α : Type} (p : α → Bool) : ∀ (l : List α) (i : Nat), decide (findFrom p i l ≥ 0) = l.any p
 | [], i => by simp [findFrom]
 | x :: xs, i => by
  unfold findFrom
  by_cases hp : p x = true
  · simp [hp]
  · simp [hp, findFrom_ge p xs (i + 1)]
theorem Ev.find {α : Type} {L : Nat → Nat → Option Int} (l : List α) (p : α → Bool)
  (hgo : ∀ i (h : i < l.length), p l[i] = false → ∀ r, Ev (fun k => L k (i + 1)) r → Ev (fun k => L k i) r)
  (hout : ∀ i (h : i < l.length), p l[i] = true → Ev (fun k => L k i) (i : Int))
  (hend : Ev (fun k => L k l.length) (-1)) : Ev (fun k => L k 0) (findFrom p 0 l) := by
 have key : ∀ d i, i + d = l.length → Ev (fun k => L k i) (findFrom p i (l.drop i)) := by
  intro d
  induction d with
  | zero =>
   intro i hi
   obtain rfl : i = l.length := by omega
   simpa [findFrom] using hend
  | succ d ih =>
   intro i hi
   have hlt : i < l.length := by omega
   rw [List.drop_eq_getElem_cons hlt]
   unfold findFrom
   by_cases hp : p l[i] = true
   ·
    rw [if_pos hp]
    exact hout i hlt hp
   ·
    have hp' : p l[i] = false := by simpa using hp
    rw [if_neg hp]
    exact hgo i hlt hp' _ (ih (i + 1) (by omega))
 simpa using key l.length 0 (by omega)
end Go.Proofs.Ytbdhmfjeamjfdaa.Q

namespace Go.Proofs.Ytbdhmfjeamjfdaa.Q
open Go.RowKit Go.Proofs.YtbdhmfjeamjfdaaW.PrintWords Go.Proofs.YtbdhmfjeamjfdaaW.PrintLast Go.Proofs.YtbdhmfjeamjfdaaW.PrintMore
set_option linter.unusedSimpArgs false
abbrev Sl := S45
def slabOf (x : S60) : S45 := ⟨x.f0, x.f1, x.f2, x.f3⟩
theorem rdL_get {l : List S60} {i : Nat} (h : i < l.length) : rd_T60 l (i : Int) = l[i] := by
 unfold rd_T60
 rw [Int.toNat_natCast, List.getD_eq_getElem?_getD, List.getElem?_eq_getElem h]
 rfl
theorem rdI_get {l : List S45} {i : Nat} (h : i < l.length) : rd_T45 l (i : Int) = l[i] := by
 unfold rd_T45
 rw [Int.toNat_natCast, List.getD_eq_getElem?_getD, List.getElem?_eq_getElem h]
 rfl
theorem toSlabs (l : List S60) (h : l.length ≤ 35184372088832) : Ev (fun k => laws_toSlabS.f k l) (l.map slabOf) := by
 unfold laws_toSlabS.f
 refine Ev.ite_pos (ge0 _) (Ev.ite_pos (by rw [Int.toNat_natCast]; omega) ?_)
 refine Ev.run (L := fun k s (i : Nat) => laws_toSlabS.l0 k l s i) l.length (fun i s => s.set i (slabOf (rd_T60 l (i : Int)))) (fun i s => s.length = l.length ∧ s.take i = (l.map slabOf).take i) (l.map slabOf) ?_ ?_ (d := l.length) (i := 0) (by omega) ⟨by simp, by simp⟩
 ·
  rintro i s hi ⟨h1, h2⟩
  refine ⟨⟨by simpa using h1, ?_⟩, fun r hr => Ev.step (fun k => laws_toSlabS.l0.eq_2 _ _ _ _) ?_⟩
  ·
   show (s.set i (slabOf (rd_T60 l (i : Int)))).take (i + 1) = _
   rw [rdL_get hi, show slabOf l[i] = (l.map slabOf)[i]'(by simpa using hi) by simp]
   exact take_set_succ (by simpa using h1) (by simpa using hi) h2
  ·
   refine Ev.ite_pos (by omega) (Ev.ite_pos (ge0 _) (Ev.call rfl (Ev.ite_pos (by omega) ?_)))
   rw [w64_succ (by omega), Int.toNat_natCast]
   exact hr
 ·
  rintro s ⟨h1, h2⟩
  refine Ev.step (fun k => laws_toSlabS.l0.eq_2 _ _ _ _) (Ev.ite_neg (by omega) ?_)
  rw [List.take_of_length_le (by omega), List.take_of_length_le (by simp)] at h2
  rw [h2]
  exact Ev.now _
theorem eqSlab_refl (a b c d : Int) : laws_eqSlab.f a b c d a b c d = some true := by simp [laws_eqSlab.f]
theorem eqSlabs (l : List S45) (h : l.length ≤ 4611686018427387904) : Ev (fun k => laws_eqSlabS.f k l l) true := by
 unfold laws_eqSlabS.f
 refine Ev.ite_pos rfl ?_
 refine Ev.run (L := fun k (_ : Unit) (i : Nat) => laws_eqSlabS.l0 k l l i) l.length (fun _ s => s) (fun _ _ => True) true ?_ ?_ (d := l.length) (i := 0) (s := ()) (by omega) trivial
 ·
  rintro i s hi _
  refine ⟨trivial, fun r hr => Ev.step (fun k => laws_eqSlabS.l0.eq_2 _ _ _ _) ?_⟩
  refine Ev.ite_pos (by omega) (Ev.ite_pos (ge0 _) (Ev.ite_pos (by omega) (Ev.call (eqSlab_refl _ _ _ _) (Ev.ite_pos rfl ?_))))
  rw [w64_succ (by omega)]
  exact hr
 ·
  intro s _
  exact Ev.step (fun k => laws_eqSlabS.l0.eq_2 _ _ _ _) (Ev.ite_neg (by omega) (Ev.now true))
theorem szSlabs (l : List S60) (n : Int) (h : l.length ≤ 9223372036854775807) (h0 : 0 ≤ n) (h1 : n ≤ 1048576) : laws_szSlabS.f l n = some (if n < l.length then -1 else n - l.length) := by
 unfold laws_szSlabS.f
 rw [w64 (by omega) (by omega)]
 by_cases hc : n < l.length
 · rw [if_pos (by omega), if_pos hc]
 · rw [if_neg (by omega), if_neg hc]
end Go.Proofs.Ytbdhmfjeamjfdaa.Q

namespace Go.Proofs.Ytbdhmfjeamjfdaa.Q
open Go.RowKit Go.Proofs.YtbdhmfjeamjfdaaW.PrintWords Go.Proofs.YtbdhmfjeamjfdaaW.PrintLast Go.Proofs.YtbdhmfjeamjfdaaW.PrintMore
def inB (a b c : Int) : Bool := decide (b ≤ a ∧ a ≤ c)
theorem within_val (a b c : Int) : impl_within.f a b c = some (inB a b c) := by
 unfold impl_within.f inB
 by_cases h : b ≤ a <;> simp [h]
theorem l00In_val (a b c : Int) : spec_l00In.f a b c = some (inB a b c) := by
 unfold spec_l00In.f inB
 by_cases h : b ≤ a <;> simp [h]
theorem inB_iff {a b c : Int} : inB a b c = true ↔ b ≤ a ∧ a ≤ c := by simp [inB]
end Go.Proofs.Ytbdhmfjeamjfdaa.Q

namespace Go.Proofs.Ytbdhmfjeamjfdaa.Q
open Go.RowKit Go.Proofs.YtbdhmfjeamjfdaaW.PrintWords Go.Proofs.YtbdhmfjeamjfdaaW.PrintLast Go.Proofs.YtbdhmfjeamjfdaaW.PrintMore
set_option linter.unusedVariables false
set_option linter.unusedSimpArgs false
abbrev Sq := S32
theorem rdQ (q : Sq) : rd_T32 [q] 0 = q := rfl
theorem one_pos (q : Sq) : (0 : Int) < (([q] : List Sq).length : Int) := by simp
def small (a : Int) : Prop := -128 ≤ a ∧ a ≤ 127
def smallS (s : Sl) : Prop := small s.f0 ∧ small s.f1 ∧ small s.f2 ∧ small s.f3
theorem small_w {a : Int} (h : small a) : wrap64 a = a := w64 (by have := h.1; omega) (by have := h.2; omega)
theorem i8w {a : Int} (h : small a) : IntKind.i8.wrap a = a := by
 obtain ⟨h0, h1⟩ := h
 unfold IntKind.wrap
 have e : (2 ^ IntKind.i8.bits : Int) = 256 := rfl
 have e2 : (2 ^ (IntKind.i8.bits - 1) : Int) = 128 := rfl
 have e3 : IntKind.i8.signed = true := rfl
 rw [e, e2, e3]
 simp only [Bool.true_and]
 by_cases hn : 0 ≤ a
 · rw [Int.emod_eq_of_lt hn (by omega), if_neg (by simp; omega)]
 ·
  have hm : a % 256 = a + 256 := by omega
  rw [hm, if_pos (by simp; omega)]
  omega
def lies (W H : Int) (s : Sl) : Bool := decide (0 ≤ s.f0 ∧ 0 ≤ s.f1 ∧ 1 ≤ s.f2 ∧ 1 ≤ s.f3 ∧ s.f0 + s.f2 ≤ W ∧ s.f1 + s.f3 ≤ H)
def before (a b : Sl) : Bool := decide (a.f1 < b.f1 ∨ a.f1 = b.f1 ∧ a.f0 < b.f0)
def inside (y x : Int) (s : Sl) : Bool := decide (s.f0 ≤ x ∧ x < s.f0 + s.f2 ∧ s.f1 ≤ y ∧ y < s.f1 + s.f3)
def meets (s t : Sl) : Bool := decide (s.f0 < t.f0 + t.f2 ∧ t.f0 < s.f0 + s.f2 ∧ s.f1 < t.f1 + t.f3 ∧ t.f1 < s.f1 + s.f3)
theorem lies_val (q : Sq) (s : Sl) (hq : small q.f0 ∧ small q.f1) (hs : smallS s) : spec_l01Lies.f [q] s.f0 s.f1 s.f2 s.f3 = some (lies q.f0 q.f1 s) := by
 obtain ⟨h0, h1, h2, h3⟩ := hs
 unfold spec_l01Lies.f lies
 rw [rdQ, small_w h0, small_w h1, small_w h2, small_w h3, small_w hq.1, small_w hq.2, w64 (x := s.f0 + s.f2) (by have := h0.1; have := h2.1; omega) (by have := h0.2; have := h2.2; omega), w64 (x := s.f1 + s.f3) (by have := h1.1; have := h3.1; omega) (by have := h1.2; have := h3.2; omega)]
 by_cases c0 : s.f0 < 0
 · rw [if_pos c0, decide_eq_false (by omega)]
 ·
  rw [if_neg c0]
  by_cases c1 : s.f1 < 0
  · rw [if_pos c1, decide_eq_false (by omega)]
  ·
   rw [if_neg c1]
   by_cases c2 : s.f2 < 1
   · rw [if_pos c2, decide_eq_false (by omega)]
   ·
    rw [if_neg c2]
    by_cases c3 : s.f3 < 1
    · rw [if_pos c3, decide_eq_false (by omega)]
    ·
     rw [if_neg c3, if_pos (one_pos q)]
     by_cases c4 : s.f0 + s.f2 ≤ q.f0
     ·
      rw [if_pos c4]
      congr 1
      exact decide_eq_decide.2 ⟨fun h => ⟨by omega, by omega, by omega, by omega, c4, h⟩, fun h => h.2.2.2.2.2⟩
     · rw [if_neg c4, decide_eq_false (by omega)]
theorem before_val (a b : Sl) : spec_l01Before.f a.f0 a.f1 a.f2 a.f3 b.f0 b.f1 b.f2 b.f3 = some (before a b) := by
 unfold spec_l01Before.f before
 by_cases h : a.f1 < b.f1
 · rw [if_pos h, decide_eq_true (Or.inl h)]
 ·
  rw [if_neg h]
  by_cases h2 : a.f1 = b.f1
  ·
   rw [if_pos h2]
   congr 1
   exact decide_eq_decide.2 ⟨fun h3 => Or.inr ⟨h2, h3⟩, fun h3 => by rcases h3 with h3 | h3 <;> omega⟩
  · rw [if_neg h2, decide_eq_false (by omega)]
theorem edge_val (a : Int) : spec_l01Edge.f a = some (inB a 1 12) := by
 unfold spec_l01Edge.f
 rw [l00In_val]
 rfl
def layX (i y : Int) : Nat → Int → List Int → List Int × Bool
 | 0, _, g => (g, true)
 | d + 1, x, g => if rd g (y * 12 + x) = 0 then layX i y d (x + 1) (g.set (y * 12 + x).toNat (i + 1)) else (g, false)
def layY (i x0 : Int) (w : Nat) : Nat → Int → List Int → List Int × Bool
 | 0, _, g => (g, true)
 | d + 1, y, g => if (layX i y w x0 g).2 = true then layY i x0 w d (y + 1) (layX i y w x0 g).1 else ((layX i y w x0 g).1, false)
def laySlab (i : Int) (s : Sl) (g : List Int) : List Int × Bool := layY i s.f0 s.f2.toNat s.f3.toNat s.f1 g
def rdS (l : List Sl) (i : Int) : Sl := rd_T45 l i
def layAll (W H : Int) (l : List Sl) : Nat → Nat → List Int → List Int × Bool
 | 0, _, g => (g, true)
 | d + 1, i, g => if (lies W H (rdS l i) && (decide (i = 0) || before (rdS l ((i : Int) - 1)) (rdS l i))) = true then
   (if (laySlab i (rdS l i) g).2 = true then layAll W H l d (i + 1) (laySlab i (rdS l i) g).1 else ((laySlab i (rdS l i) g).1, false)) else (g, false)
def grid0 : List Int := List.replicate 144 0
def layV (q : Sq) : List Int × Bool := if (inB q.f0 1 12 && inB q.f1 1 12 && decide (q.f2.length ≤ 60)) = true then layAll q.f0 q.f1 q.f2 q.f2.length 0 grid0 else (grid0, false)
theorem layX_len (i y : Int) : ∀ d x g, (layX i y d x g).1.length = g.length
 | 0, _, _ => rfl
 | d + 1, x, g => by
  unfold layX
  split
  · rw [layX_len i y d, List.length_set]
  · rfl
theorem layY_len (i x0 : Int) (w : Nat) : ∀ d y g, (layY i x0 w d y g).1.length = g.length
 | 0, _, _ => rfl
 | d + 1, y, g => by
  unfold layY
  split
  · rw [layY_len i x0 w d, layX_len]
  · exact layX_len _ _ _ _ _
theorem layAll_len (W H : Int) (l : List Sl) : ∀ d i g, (layAll W H l d i g).1.length = g.length
 | 0, _, _ => rfl
 | d + 1, i, g => by
  unfold layAll
  split
  ·
   split
   ·
    rw [layAll_len W H l d]
    exact layY_len _ _ _ _ _ _
   · exact layY_len _ _ _ _ _ _
  · rfl
theorem layV_len (q : Sq) : (layV q).1.length = 144 := by
 unfold layV
 split
 ·
  rw [layAll_len]
  simp [grid0]
 · simp [grid0]
def smallQ (q : Sq) : Prop := small q.f0 ∧ small q.f1 ∧ q.f2.length ≤ 1048576 ∧ ∀ s ∈ q.f2, smallS s
theorem smallQ.at {q : Sq} (h : smallQ q) {i : Nat} (hi : i < q.f2.length) : smallS (rdS q.f2 (i : Int)) := by
 unfold rdS
 rw [rdI_get hi]
 exact h.2.2.2 _ (List.getElem_mem _)
theorem lay2 (q : Sq) (i : Nat) (y : Int) (g0 : List Int) (s0 s1 s2 s3 : Int) (r : List Int × Bool) (hi : i ≤ 1048576) (hg0 : g0.length = 144) (hy : 0 ≤ y ∧ y < 12) (hs : small s0 ∧ 0 ≤ s0 ∧ 1 ≤ s2 ∧ s0 + s2 ≤ 12) :
  ∀ (d : Nat) (x : Int) (g : List Int), 0 ≤ x → x + (d : Int) = s0 + s2 → g.length = 144 →
   ((layX i y d x g).2 = true → Ev (fun k => spec_l01Lay.l1 k [q] (i : Int) (y + 1) g0 (layX i y d x g).1 s0 s1 s2 s3) r) →
   ((layX i y d x g).2 = false → r = ((layX i y d x g).1, false)) →
   Ev (fun k => spec_l01Lay.l2 k [q] (i : Int) y x g0 g s0 s1 s2 s3) r := by
 obtain ⟨hs0, hs1, hs2, hs3⟩ := hs
 have ew : IntKind.i8.wrap (s0 + s2) = s0 + s2 := i8w ⟨by omega, by omega⟩
 intro d
 induction d with
 | zero =>
  intro x g hx hd hg h1 h2
  refine Ev.step (fun k => spec_l01Lay.l2.eq_2 _ _ _ _ _ _ _ _ _ _ _) ?_
  rw [ew, i8w (a := y + 1) ⟨by omega, by omega⟩]
  exact Ev.ite_neg (by omega) (h1 rfl)
 | succ d ih =>
  intro x g hx hd hg h1 h2
  refine Ev.step (fun k => spec_l01Lay.l2.eq_2 _ _ _ _ _ _ _ _ _ _ _) ?_
  rw [ew, i8w (a := x + 1) ⟨by omega, by omega⟩]
  refine Ev.ite_pos (by omega) (Ev.ite_pos hy.1 (Ev.ite_pos hy.2 (Ev.ite_pos hx (Ev.ite_pos (by omega) (Ev.ite_pos (by omega) ?_)))))
  by_cases hc : rd g (y * 12 + x) = 0
  ·
   have e : layX i y (d + 1) x g = layX i y d (x + 1) (g.set (y * 12 + x).toNat (i + 1)) := by rw [layX, if_pos hc]
   rw [e] at h1 h2
   rw [w64_succ (i := i) (by omega), show ((i + 1 : Nat) : Int) = (i : Int) + 1 by omega]
   exact Ev.ite_pos hc (ih (x + 1) _ (by omega) (by omega) (by rw [List.length_set]; exact hg) h1 h2)
  ·
   have e : layX i y (d + 1) x g = (g, false) := by rw [layX, if_neg hc]
   rw [e] at h2
   rw [h2 rfl]
   exact Ev.ite_neg hc (Ev.ite_pos hg (Ev.ite_pos hg0 (Ev.now _)))
theorem lay1 (q : Sq) (i : Nat) (g0 : List Int) (s : Sl) (r : List Int × Bool) (hi : i ≤ 1048576) (hg0 : g0.length = 144) (hl : lies 12 12 s = true) :
  ∀ (d : Nat) (y : Int) (g : List Int), 0 ≤ y → y + (d : Int) = s.f1 + s.f3 → g.length = 144 →
   ((layY i s.f0 s.f2.toNat d y g).2 = true → Ev (fun k => spec_l01Lay.l0 k [q] ((i + 1 : Nat) : Int) g0 (layY i s.f0 s.f2.toNat d y g).1) r) →
   ((layY i s.f0 s.f2.toNat d y g).2 = false → r = ((layY i s.f0 s.f2.toNat d y g).1, false)) →
   Ev (fun k => spec_l01Lay.l1 k [q] (i : Int) y g0 g s.f0 s.f1 s.f2 s.f3) r := by
 have hl' := of_decide_eq_true hl
 have ew : IntKind.i8.wrap (s.f1 + s.f3) = s.f1 + s.f3 := i8w ⟨by omega, by omega⟩
 intro d
 induction d with
 | zero =>
  intro y g hy hd hg h1 h2
  refine Ev.step (fun k => spec_l01Lay.l1.eq_2 _ _ _ _ _ _ _ _ _ _) ?_
  rw [ew, w64_succ (i := i) (by omega)]
  exact Ev.ite_neg (by omega) (h1 rfl)
 | succ d ih =>
  intro y g hy hd hg h1 h2
  refine Ev.step (fun k => spec_l01Lay.l1.eq_2 _ _ _ _ _ _ _ _ _ _) ?_
  rw [ew]
  refine Ev.ite_pos (by omega) (lay2 q i y g0 s.f0 s.f1 s.f2 s.f3 r hi hg0 ⟨hy, by omega⟩ ⟨⟨by omega, by omega⟩, by omega, by omega, by omega⟩ s.f2.toNat s.f0 g (by omega) (by omega) hg ?_ ?_)
  ·
   intro hx
   have e : layY i s.f0 s.f2.toNat (d + 1) y g = layY i s.f0 s.f2.toNat d (y + 1) (layX i y s.f2.toNat s.f0 g).1 := by rw [layY, if_pos hx]
   rw [e] at h1 h2
   exact ih (y + 1) _ (by omega) (by omega) (by rw [layX_len]; exact hg) h1 h2
  ·
   intro hx
   have e : layY i s.f0 s.f2.toNat (d + 1) y g = ((layX i y s.f2.toNat s.f0 g).1, false) := by rw [layY, if_neg (by simp [hx])]
   rw [e] at h2
   exact h2 rfl
theorem lay0 (q : Sq) (g0 : List Int) (hq : smallQ q) (hW : q.f0 ≤ 12) (hH : q.f1 ≤ 12) (hg0 : g0.length = 144) :
  ∀ (d i : Nat) (g : List Int), i + d = q.f2.length → g.length = 144 → Ev (fun k => spec_l01Lay.l0 k [q] (i : Int) g0 g) (layAll q.f0 q.f1 q.f2 d i g) := by
 obtain ⟨q0, q1, q2, q3⟩ := hq
 intro d
 induction d with
 | zero =>
  intro i g hi hg
  refine Ev.step (fun k => spec_l01Lay.l0.eq_2 _ _ _ _ _) ?_
  rw [rdQ]
  exact Ev.ite_pos (one_pos q) (Ev.ite_neg (by omega) (Ev.ite_pos hg (Ev.ite_pos hg0 (Ev.now _))))
 | succ d ih =>
  intro i g hi hg
  have hs := smallQ.at ⟨q0, q1, q2, q3⟩ (show i < q.f2.length by omega)
  have hv := lies_val q (rdS q.f2 (i : Int)) ⟨q0, q1⟩ hs
  refine Ev.step (fun k => spec_l01Lay.l0.eq_2 _ _ _ _ _) ?_
  rw [rdQ]
  refine Ev.ite_pos (one_pos q) (Ev.ite_pos (by omega) (Ev.ite_pos (by omega) (Ev.call hv ?_)))
  have no : layAll q.f0 q.f1 q.f2 (d + 1) i g = (g, false) → Ev (fun k => spec_l01Lay.j2 k [q] (i : Int) true g0 g (rdS q.f2 (i : Int)).f0 (rdS q.f2 (i : Int)).f1 (rdS q.f2 (i : Int)).f2 (rdS q.f2 (i : Int)).f3) (layAll q.f0 q.f1 q.f2 (d + 1) i g) := by
   intro e
   rw [e]
   exact Ev.step (fun k => spec_l01Lay.j2.eq_2 _ _ _ _ _ _ _ _ _ _) (Ev.ite_pos rfl (Ev.ite_pos hg (Ev.ite_pos hg0 (Ev.now _))))
  by_cases hl : lies q.f0 q.f1 (rdS q.f2 (i : Int)) = true
  ·
   refine Ev.ite_pos hl ?_
   have hl12 : lies 12 12 (rdS q.f2 (i : Int)) = true := by
    have h := of_decide_eq_true hl
    exact decide_eq_true (by omega)
   have h12 := of_decide_eq_true hl12
   have yes : (decide (i = 0) || before (rdS q.f2 ((i : Int) - 1)) (rdS q.f2 (i : Int))) = true → Ev (fun k => spec_l01Lay.j2 k [q] (i : Int) false g0 g (rdS q.f2 (i : Int)).f0 (rdS q.f2 (i : Int)).f1 (rdS q.f2 (i : Int)).f2 (rdS q.f2 (i : Int)).f3) (layAll q.f0 q.f1 q.f2 (d + 1) i g) := by
    intro hb
    have e : layAll q.f0 q.f1 q.f2 (d + 1) i g = (if (laySlab i (rdS q.f2 i) g).2 = true then layAll q.f0 q.f1 q.f2 d (i + 1) (laySlab i (rdS q.f2 i) g).1 else ((laySlab i (rdS q.f2 i) g).1, false)) := by
     rw [layAll, if_pos (by rw [hl, hb]; rfl)]
    rw [e]
    refine Ev.step (fun k => spec_l01Lay.j2.eq_2 _ _ _ _ _ _ _ _ _ _) (Ev.ite_neg (by decide) ?_)
    refine lay1 q i g0 (rdS q.f2 (i : Int)) _ (by omega) hg0 hl12 (rdS q.f2 (i : Int)).f3.toNat (rdS q.f2 (i : Int)).f1 g (by omega) (by omega) hg ?_ ?_
    ·
     intro hx
     have hx' : (laySlab i (rdS q.f2 i) g).2 = true := hx
     rw [if_pos hx']
     exact ih (i + 1) _ (by omega) (by rw [layY_len]; exact hg)
    ·
     intro hx
     have hx' : ¬ (laySlab i (rdS q.f2 i) g).2 = true := by simp [show (laySlab i (rdS q.f2 i) g).2 = false from hx]
     rw [if_neg hx']
     rfl
   by_cases h0 : (i : Int) > 0
   ·
    rw [w64 (x := (i : Int) - 1) (by omega) (by omega)]
    refine Ev.ite_pos h0 (Ev.ite_pos (by omega) (Ev.ite_pos (by omega) (Ev.call (before_val (rdS q.f2 ((i : Int) - 1)) (rdS q.f2 (i : Int))) ?_)))
    by_cases hb : before (rdS q.f2 ((i : Int) - 1)) (rdS q.f2 (i : Int)) = true
    ·
     rw [hb]
     exact yes (by rw [hb, Bool.or_true])
    ·
     have hb' : before (rdS q.f2 ((i : Int) - 1)) (rdS q.f2 (i : Int)) = false := by simpa using hb
     rw [hb']
     exact no (by rw [layAll, if_neg (by rw [hl, hb']; simp; omega)])
   · exact Ev.ite_neg h0 (yes (by rw [decide_eq_true (show i = 0 by omega)]; rfl))
  · exact Ev.ite_neg hl (no (by rw [layAll, if_neg (by rw [show lies q.f0 q.f1 (rdS q.f2 (i : Int)) = false by simpa using hl]; simp)]))
theorem lay_val (q : Sq) (hq : smallQ q) : Ev (fun k => spec_l01Lay.f k [q]) (layV q) := by
 unfold spec_l01Lay.f
 have hz : arrZ 144 = grid0 := rfl
 have hz2 : grid0.length = 144 := by simp [grid0]
 rw [rdQ, small_w hq.1, small_w hq.2.1, hz]
 have no : layV q = (grid0, false) → Ev (fun k => spec_l01Lay.j0 k [q] true grid0 grid0) (layV q) := by
  intro e
  rw [e]
  exact Ev.step (fun k => spec_l01Lay.j0.eq_2 _ _ _ _ _) (Ev.ite_pos rfl (Ev.ite_pos hz2 (Ev.ite_pos hz2 (Ev.now _))))
 refine Ev.ite_pos (one_pos q) (Ev.call (edge_val _) ?_)
 by_cases h0 : inB q.f0 1 12 = true
 ·
  refine Ev.ite_pos h0 (Ev.call (edge_val _) ?_)
  by_cases h1 : inB q.f1 1 12 = true
  ·
   refine Ev.ite_pos h1 ?_
   by_cases h2 : (q.f2.length : Int) > 60
   ·
    rw [decide_eq_true h2]
    exact no (by unfold layV; rw [if_neg (by simp; intro _ _; omega)])
   ·
    rw [decide_eq_false h2]
    have e : layV q = layAll q.f0 q.f1 q.f2 q.f2.length 0 grid0 := by unfold layV; rw [if_pos (by rw [h0, h1]; simp; omega)]
    rw [e]
    exact Ev.step (fun k => spec_l01Lay.j0.eq_2 _ _ _ _ _) (Ev.ite_neg (by decide) (lay0 q grid0 hq (inB_iff.1 h0).2 (inB_iff.1 h1).2 hz2 q.f2.length 0 grid0 (by omega) hz2))
  · exact Ev.ite_neg h1 (no (by unfold layV; rw [if_neg (by simp [h1])]))
 · exact Ev.ite_neg h0 (no (by unfold layV; rw [if_neg (by simp [h0])]))
end Go.Proofs.Ytbdhmfjeamjfdaa.Q

namespace Go.Proofs.Ytbdhmfjeamjfdaa.Q
open Go.RowKit Go.Proofs.YtbdhmfjeamjfdaaW.PrintWords Go.Proofs.YtbdhmfjeamjfdaaW.PrintLast Go.Proofs.YtbdhmfjeamjfdaaW.PrintMore
set_option linter.unusedVariables false
set_option linter.unusedSimpArgs false
def cellAt (g : List Int) (y x : Int) : Int := rd g (y * 12 + x)
theorem rd_set_if {g : List Int} {i j : Int} (hi : 0 ≤ i) (hj : 0 ≤ j) (hl : i < g.length) (v : Int) : rd (g.set i.toNat v) j = if j = i then v else rd g j := by
 obtain ⟨n, rfl⟩ := Int.eq_ofNat_of_zero_le hi
 obtain ⟨m, rfl⟩ := Int.eq_ofNat_of_zero_le hj
 unfold rd
 simp only [Int.toNat_natCast, List.getD_eq_getElem?_getD, List.getElem?_set]
 by_cases h : m = n
 ·
  subst h
  rw [if_pos rfl, if_pos rfl, if_pos (by omega)]
  rfl
 · rw [if_neg (fun e => h e.symm), if_neg (by omega)]
theorem cell_set {g : List Int} {y x y' x' : Int} (hg : g.length = 144) (hy : 0 ≤ y ∧ y < 12) (hx : 0 ≤ x ∧ x < 12) (hy' : 0 ≤ y' ∧ y' < 12) (hx' : 0 ≤ x' ∧ x' < 12) (v : Int) : cellAt (g.set (y * 12 + x).toNat v) y' x' = if y' = y ∧ x' = x then v else cellAt g y' x' := by
 unfold cellAt
 rw [rd_set_if (by omega) (by omega) (by omega)]
 by_cases h : y' = y ∧ x' = x
 · rw [if_pos h, if_pos (by omega)]
 · rw [if_neg h, if_neg (by omega)]
theorem layX_spec (i y : Int) (hi : 0 ≤ i) (hy : 0 ≤ y ∧ y < 12) : ∀ (d : Nat) (x : Int) (g : List Int), 0 ≤ x → x + (d : Int) ≤ 12 → g.length = 144 →
  ((layX i y d x g).2 = true ↔ ∀ x', x ≤ x' → x' < x + d → cellAt g y x' = 0) ∧
  ((layX i y d x g).2 = true → ∀ y' x', 0 ≤ y' ∧ y' < 12 → 0 ≤ x' ∧ x' < 12 → cellAt (layX i y d x g).1 y' x' = if y' = y ∧ x ≤ x' ∧ x' < x + d then i + 1 else cellAt g y' x')
 | 0, x, g, hx, hd, hg => by
  refine ⟨⟨fun _ x' h1 h2 => by omega, fun _ => rfl⟩, fun _ y' x' _ _ => ?_⟩
  rw [if_neg (by omega)]
  rfl
 | d + 1, x, g, hx, hd, hg => by
  unfold layX
  by_cases hc : rd g (y * 12 + x) = 0
  ·
   rw [if_pos hc]
   obtain ⟨h1, h2⟩ := layX_spec i y hi hy d (x + 1) (g.set (y * 12 + x).toNat (i + 1)) (by omega) (by omega) (by rw [List.length_set]; exact hg)
   refine ⟨⟨fun h x' a b => ?_, fun h => h1.2 fun x' a b => ?_⟩, fun h y' x' hy' hx' => ?_⟩
   ·
    by_cases e : x' = x
    · rw [e]; exact hc
    ·
     have := h1.1 h x' (by omega) (by omega)
     rwa [cell_set hg hy (by omega) hy (by omega), if_neg (by omega)] at this
   ·
    rw [cell_set hg hy (by omega) hy (by omega), if_neg (by omega)]
    exact h x' (by omega) (by omega)
   ·
    rw [h2 h y' x' hy' hx', cell_set hg hy (by omega) hy' hx']
    by_cases e : y' = y ∧ x' = x
    · rw [if_pos e, if_neg (by omega), if_pos (by omega)]
    ·
     rw [if_neg e]
     by_cases e2 : y' = y ∧ x + 1 ≤ x' ∧ x' < x + 1 + (d : Int)
     · rw [if_pos e2, if_pos (by omega)]
     · rw [if_neg e2, if_neg (by omega)]
  ·
   rw [if_neg hc]
   refine ⟨⟨fun h => (by cases h), fun h => absurd (h x (by omega) (by omega)) hc⟩, fun h => (by cases h)⟩
theorem layY_spec (i x0 : Int) (w : Nat) (hi : 0 ≤ i) (hx0 : 0 ≤ x0) (hw : x0 + (w : Int) ≤ 12) : ∀ (d : Nat) (y : Int) (g : List Int), 0 ≤ y → y + (d : Int) ≤ 12 → g.length = 144 →
  ((layY i x0 w d y g).2 = true ↔ ∀ y' x', y ≤ y' → y' < y + d → x0 ≤ x' → x' < x0 + w → cellAt g y' x' = 0) ∧
  ((layY i x0 w d y g).2 = true → ∀ y' x', 0 ≤ y' ∧ y' < 12 → 0 ≤ x' ∧ x' < 12 → cellAt (layY i x0 w d y g).1 y' x' = if (y ≤ y' ∧ y' < y + d) ∧ x0 ≤ x' ∧ x' < x0 + w then i + 1 else cellAt g y' x')
 | 0, y, g, hy, hd, hg => by
  refine ⟨⟨fun _ y' x' h1 h2 => by omega, fun _ => rfl⟩, fun _ y' x' _ _ => ?_⟩
  rw [if_neg (by omega)]
  rfl
 | d + 1, y, g, hy, hd, hg => by
  unfold layY
  obtain ⟨a1, a2⟩ := layX_spec i y hi ⟨hy, by omega⟩ w x0 g hx0 hw hg
  by_cases hc : (layX i y w x0 g).2 = true
  ·
   rw [if_pos hc]
   have a3 := a1.1 hc
   have a4 := a2 hc
   obtain ⟨h1, h2⟩ := layY_spec i x0 w hi hx0 hw d (y + 1) (layX i y w x0 g).1 (by omega) (by omega) (by rw [layX_len]; exact hg)
   refine ⟨⟨fun h y' x' b1 b2 b3 b4 => ?_, fun h => h1.2 fun y' x' b1 b2 b3 b4 => ?_⟩, fun h y' x' hy' hx' => ?_⟩
   ·
    by_cases e : y' = y
    · rw [e]; exact a3 x' b3 b4
    ·
     have := h1.1 h y' x' (by omega) (by omega) b3 b4
     rwa [a4 y' x' (by omega) (by omega), if_neg (by omega)] at this
   ·
    rw [a4 y' x' (by omega) (by omega), if_neg (by omega)]
    exact h y' x' (by omega) (by omega) b3 b4
   ·
    rw [h2 h y' x' hy' hx', a4 y' x' hy' hx']
    by_cases e : y' = y ∧ x0 ≤ x' ∧ x' < x0 + (w : Int)
    · rw [if_pos e, if_neg (by omega), if_pos (by omega)]
    ·
     rw [if_neg e]
     by_cases e2 : (y + 1 ≤ y' ∧ y' < y + 1 + (d : Int)) ∧ x0 ≤ x' ∧ x' < x0 + (w : Int)
     · rw [if_pos e2, if_pos (by omega)]
     · rw [if_neg e2, if_neg (by omega)]
  ·
   rw [if_neg hc]
   refine ⟨⟨fun h => (by cases h), fun h => absurd (a1.2 fun x' b1 b2 => h y x' (by omega) (by omega) b1 b2) hc⟩, fun h => (by cases h)⟩
def coverAt (l : List Sl) (y x : Int) : Int := findFrom (inside y x) 0 l
theorem findFrom_snoc {α : Type} (p : α → Bool) (a : α) : ∀ (l : List α) (i : Nat), findFrom p i (l ++ [a]) = if findFrom p i l = -1 then (if p a = true then ((i + l.length : Nat) : Int) else -1) else findFrom p i l
 | [], i => by simp [findFrom]
 | x :: xs, i => by
  have e1 : findFrom p i (x :: xs) = if p x = true then (i : Int) else findFrom p (i + 1) xs := rfl
  show (if p x = true then (i : Int) else findFrom p (i + 1) (xs ++ [a])) = _
  rw [e1]
  by_cases h : p x = true
  · rw [if_pos h, if_pos h, if_neg (by omega)]
  · rw [if_neg h, if_neg h, findFrom_snoc p a xs (i + 1), List.length_cons, show i + 1 + xs.length = i + (xs.length + 1) by omega]
theorem findFrom_none {α : Type} (p : α → Bool) : ∀ (l : List α) (i : Nat), findFrom p i l = -1 ↔ ∀ a ∈ l, p a = false
 | [], i => by simp [findFrom]
 | x :: xs, i => by
  unfold findFrom
  by_cases h : p x = true
  ·
   rw [if_pos h]
   exact ⟨fun e => by omega, fun e => by have := e x (by simp); rw [h] at this; cases this⟩
  ·
   rw [if_neg h, findFrom_none p xs (i + 1)]
   exact ⟨fun e a ha => by rcases List.mem_cons.1 ha with rfl | ha; simpa using h; exact e a ha, fun e a ha => e a (by simp [ha])⟩
def sqC (W H : Int) (l : List Sl) (i : Nat) : Bool := lies W H (rdS l i) && !(l.take i).any (meets (rdS l i)) && (decide (i = 0) || before (rdS l ((i : Int) - 1)) (rdS l i))
def sqB (q : Sq) : Bool := inB q.f0 1 12 && inB q.f1 1 12 && decide (q.f2.length ≤ 60) && loopV (fun i (_ : Unit) => sqC q.f0 q.f1 q.f2 i) (fun _ s => s) (fun _ _ => false) (fun _ => true) q.f2.length 0 ()
theorem meets_iff {s t : Sl} (hs : lies 12 12 s = true) (ht : lies 12 12 t = true) : meets s t = true ↔ ∃ y x, inside y x s = true ∧ inside y x t = true := by
 have h1 := of_decide_eq_true hs
 have h2 := of_decide_eq_true ht
 unfold meets inside
 simp only [decide_eq_true_eq]
 constructor
 ·
  intro h
  by_cases a : s.f1 ≤ t.f1 <;> by_cases b : s.f0 ≤ t.f0
  · exact ⟨t.f1, t.f0, by omega, by omega⟩
  · exact ⟨t.f1, s.f0, by omega, by omega⟩
  · exact ⟨s.f1, t.f0, by omega, by omega⟩
  · exact ⟨s.f1, s.f0, by omega, by omega⟩
 ·
  rintro ⟨y, x, h, h'⟩
  omega
theorem lies12 {W H : Int} {s : Sl} (hW : W ≤ 12) (hH : H ≤ 12) (h : lies W H s = true) : lies 12 12 s = true := by
 have h := of_decide_eq_true h
 exact decide_eq_true (by omega)
def gridI (l : List Sl) (i : Nat) (g : List Int) : Prop := g.length = 144 ∧ (∀ s ∈ l.take i, lies 12 12 s = true) ∧ ∀ y x, 0 ≤ y ∧ y < 12 → 0 ≤ x ∧ x < 12 → cellAt g y x = coverAt (l.take i) y x + 1
theorem lay_step {l : List Sl} {i : Nat} {g : List Int} (hi : i < l.length) (hl : lies 12 12 (rdS l i) = true) (hg : gridI l i g) :
  (laySlab i (rdS l i) g).2 = !(l.take i).any (meets (rdS l i)) ∧ ((laySlab i (rdS l i) g).2 = true → gridI l (i + 1) (laySlab i (rdS l i) g).1) := by
 obtain ⟨h1, h2, h3⟩ := hg
 have hb := of_decide_eq_true hl
 obtain ⟨a1, a2⟩ := layY_spec i (rdS l i).f0 (rdS l i).f2.toNat (by omega) (by omega) (by omega) (rdS l i).f3.toNat (rdS l i).f1 g (by omega) (by omega) h1
 have ei : ∀ y' x', ((rdS l i).f1 ≤ y' ∧ y' < (rdS l i).f1 + ((rdS l i).f3.toNat : Int)) ∧ (rdS l i).f0 ≤ x' ∧ x' < (rdS l i).f0 + ((rdS l i).f2.toNat : Int) ↔ inside y' x' (rdS l i) = true := by
  intro y' x'
  unfold inside
  rw [decide_eq_true_eq]
  omega
 have hok : (laySlab i (rdS l i) g).2 = true ↔ ∀ t ∈ l.take i, ¬ meets (rdS l i) t = true := by
  show (layY _ _ _ _ _ _).2 = true ↔ _
  rw [a1]
  constructor
  ·
   intro h t ht hm
   obtain ⟨y, x, hs, hx⟩ := (meets_iff hl (h2 t ht)).1 hm
   have hin := (ei y x).2 hs
   have hyx : (0 ≤ y ∧ y < 12) ∧ 0 ≤ x ∧ x < 12 := by omega
   have h0 := h y x hin.1.1 hin.1.2 hin.2.1 hin.2.2
   rw [h3 y x hyx.1 hyx.2] at h0
   have hn := (findFrom_none (inside y x) (l.take i) 0).1 (by unfold coverAt at h0; omega) t ht
   rw [hx] at hn
   cases hn
  ·
   intro h y x b1 b2 b3 b4
   have hs := (ei y x).1 ⟨⟨b1, b2⟩, b3, b4⟩
   rw [h3 y x (by omega) (by omega)]
   have hn : coverAt (l.take i) y x = -1 := (findFrom_none _ _ 0).2 fun t ht => by
    by_cases hx : inside y x t = true
    · exact absurd ((meets_iff hl (h2 t ht)).2 ⟨y, x, hs, hx⟩) (h t ht)
    · simpa using hx
   omega
 refine ⟨?_, fun h => ⟨?_, ?_, fun y x hy hx => ?_⟩⟩
 ·
  by_cases h : (laySlab i (rdS l i) g).2 = true
  ·
   rw [h]
   have := hok.1 h
   symm
   rw [Bool.not_eq_true']
   rw [List.any_eq_false]
   exact this
  ·
   rw [show (laySlab i (rdS l i) g).2 = false by simpa using h]
   symm
   rw [Bool.not_eq_false']
   rw [List.any_eq_true]
   apply Classical.byContradiction
   intro hn
   exact h (hok.2 fun t ht hm => hn ⟨t, ht, hm⟩)
 ·
  unfold laySlab
  rw [layY_len]; exact h1
 ·
  intro s hs
  rw [List.take_succ_eq_append_getElem hi] at hs
  rcases List.mem_append.1 hs with hs | hs
  · exact h2 s hs
  ·
   obtain rfl := List.mem_singleton.1 hs
   have : rdS l i = l[i] := rdI_get hi
   rwa [this] at hl
 ·
  have e := a2 h y x hy hx
  show cellAt (layY _ _ _ _ _ _).1 y x = _
  rw [e, h3 y x hy hx]
  have er : rdS l i = l[i] := rdI_get hi
  unfold coverAt
  rw [List.take_succ_eq_append_getElem hi, findFrom_snoc, ← er, List.length_take, show min i l.length = i by omega]
  by_cases hin : inside y x (rdS l i) = true
  ·
   rw [if_pos ((ei y x).2 hin)]
   have h0 := a1.1 h y x ((ei y x).2 hin).1.1 ((ei y x).2 hin).1.2 ((ei y x).2 hin).2.1 ((ei y x).2 hin).2.2
   rw [h3 y x hy hx] at h0
   have hn : findFrom (inside y x) 0 (l.take i) = -1 := by unfold coverAt at h0; omega
   rw [if_pos hn, if_pos hin]
   omega
  ·
   rw [if_neg (fun h' => hin ((ei y x).1 h'))]
   by_cases hn : findFrom (inside y x) 0 (l.take i) = -1
   · rw [if_pos hn, if_neg hin, hn]
   · rw [if_neg hn]
theorem layAll_spec {W H : Int} (hW : W ≤ 12) (hH : H ≤ 12) (l : List Sl) : ∀ (d i : Nat) (g : List Int), i + d = l.length → gridI l i g →
  (layAll W H l d i g).2 = loopV (fun i (_ : Unit) => sqC W H l i) (fun _ s => s) (fun _ _ => false) (fun _ => true) d i () ∧ ((layAll W H l d i g).2 = true → gridI l l.length (layAll W H l d i g).1)
 | 0, i, g, hi, hg => by
  obtain rfl : i = l.length := by omega
  exact ⟨rfl, fun _ => hg⟩
 | d + 1, i, g, hi, hg => by
  unfold layAll loopV
  by_cases h1 : lies W H (rdS l i) = true
  ·
   obtain ⟨a1, a2⟩ := lay_step (by omega) (lies12 hW hH h1) hg
   by_cases h2 : (decide (i = 0) || before (rdS l ((i : Int) - 1)) (rdS l i)) = true
   ·
    rw [if_pos (by rw [h1, h2]; rfl)]
    by_cases h3 : (laySlab i (rdS l i) g).2 = true
    ·
     rw [if_pos h3, if_pos (by unfold sqC; rw [h1, h2, ← a1, h3]; rfl)]
     exact layAll_spec hW hH l d (i + 1) _ (by omega) (a2 h3)
    ·
     have h3' : (laySlab i (rdS l i) g).2 = false := by simpa using h3
     rw [if_neg h3, if_neg (by unfold sqC; rw [← a1, h3']; simp)]
     exact ⟨rfl, fun h => by cases h⟩
   ·
    have h2' : (decide (i = 0) || before (rdS l ((i : Int) - 1)) (rdS l i)) = false := by simpa using h2
    rw [if_neg (by rw [h2']; simp), if_neg (by unfold sqC; rw [h2']; simp)]
    exact ⟨rfl, fun h => by cases h⟩
  ·
   have h1' : lies W H (rdS l i) = false := by simpa using h1
   rw [if_neg (by rw [h1']; simp), if_neg (by unfold sqC; rw [h1']; simp)]
   exact ⟨rfl, fun h => by cases h⟩
theorem grid0_cell (y x : Int) : cellAt grid0 y x = 0 := by
 unfold cellAt rd grid0
 rw [List.getD_eq_getElem?_getD, List.getElem?_replicate]
 split <;> rfl
theorem layV_spec (q : Sq) : (layV q).2 = sqB q ∧ (sqB q = true → gridI q.f2 q.f2.length (layV q).1) := by
 unfold layV sqB
 by_cases h0 : (inB q.f0 1 12 && inB q.f1 1 12 && decide (q.f2.length ≤ 60)) = true
 ·
  rw [if_pos h0, h0, Bool.true_and]
  rw [Bool.and_eq_true, Bool.and_eq_true] at h0
  have h1 := layAll_spec (inB_iff.1 h0.1.1).2 (inB_iff.1 h0.1.2).2 q.f2 q.f2.length 0 grid0 (by omega) ⟨by simp [grid0], fun s hs => by simp at hs, fun y x _ _ => by rw [grid0_cell]; simp [coverAt, findFrom]⟩
  refine ⟨h1.1, fun h => h1.2 ?_⟩
  rw [h1.1]
  exact h
 ·
  have h0' : (inB q.f0 1 12 && inB q.f1 1 12 && decide (q.f2.length ≤ 60)) = false := by simpa using h0
  rw [if_neg h0, h0', Bool.false_and]
  exact ⟨rfl, fun h => by cases h⟩
end Go.Proofs.Ytbdhmfjeamjfdaa.Q

namespace Go.Proofs.Ytbdhmfjeamjfdaa.Q
open Go.RowKit Go.Proofs.YtbdhmfjeamjfdaaW.PrintWords Go.Proofs.YtbdhmfjeamjfdaaW.PrintLast Go.Proofs.YtbdhmfjeamjfdaaW.PrintMore
set_option linter.unusedVariables false
set_option linter.unusedSimpArgs false
theorem isEdge_val (a : Int) : impl_isEdge.f a = some (inB a 1 12) := by
 unfold impl_isEdge.f
 rw [within_val]
 rfl
theorem isIn_val (q : Sq) (s : Sl) (hq : small q.f0 ∧ small q.f1) (hs : smallS s) (l : List Sl) : impl_Slab_isIn.f s.f0 s.f1 s.f2 s.f3 q.f0 q.f1 l = some (lies q.f0 q.f1 s) := by
 obtain ⟨h0, h1, h2, h3⟩ := hs
 unfold impl_Slab_isIn.f lies
 rw [small_w h0, small_w h1, small_w h2, small_w h3, small_w hq.1, small_w hq.2, w64 (x := s.f0 + s.f2) (by have := h0.1; have := h2.1; omega) (by have := h0.2; have := h2.2; omega), w64 (x := s.f1 + s.f3) (by have := h1.1; have := h3.1; omega) (by have := h1.2; have := h3.2; omega)]
 by_cases c2 : s.f2 ≥ 1
 ·
  rw [if_pos c2]
  by_cases c3 : s.f3 ≥ 1
  ·
   rw [if_pos c3]
   by_cases c0 : s.f0 ≥ 0
   ·
    rw [if_pos c0]
    by_cases c1 : s.f1 ≥ 0
    ·
     rw [if_pos c1]
     by_cases c4 : s.f0 + s.f2 ≤ q.f0
     ·
      rw [if_pos c4]
      congr 1
      exact decide_eq_decide.2 ⟨fun h => ⟨c0, c1, c2, c3, c4, h⟩, fun h => h.2.2.2.2.2⟩
     · rw [if_neg c4, decide_eq_false (by omega)]
    · rw [if_neg c1, decide_eq_false (by omega)]
   · rw [if_neg c0, decide_eq_false (by omega)]
  · rw [if_neg c3, decide_eq_false (by omega)]
 · rw [if_neg c2, decide_eq_false (by omega)]
theorem meets_val (s t : Sl) (hs : smallS s) (ht : smallS t) : impl_Slab_meets.f s.f0 s.f1 s.f2 s.f3 t.f0 t.f1 t.f2 t.f3 = some (meets s t) := by
 obtain ⟨h0, h1, h2, h3⟩ := hs
 obtain ⟨g0, g1, g2, g3⟩ := ht
 unfold impl_Slab_meets.f meets
 rw [small_w h0, small_w h1, small_w h2, small_w h3, small_w g0, small_w g1, small_w g2, small_w g3]
 unfold small at h0 h1 h2 h3 g0 g1 g2 g3
 rw [w64 (x := s.f0 + s.f2) (by omega) (by omega), w64 (x := s.f1 + s.f3) (by omega) (by omega), w64 (x := t.f0 + t.f2) (by omega) (by omega), w64 (x := t.f1 + t.f3) (by omega) (by omega)]
 by_cases c0 : s.f0 < t.f0 + t.f2
 ·
  rw [if_pos c0]
  by_cases c1 : t.f0 < s.f0 + s.f2
  ·
   rw [if_pos c1]
   by_cases c2 : s.f1 < t.f1 + t.f3
   ·
    rw [if_pos c2]
    congr 1
    exact decide_eq_decide.2 ⟨fun h => ⟨c0, c1, c2, h⟩, fun h => h.2.2.2⟩
   · rw [if_neg c2, decide_eq_false (by omega)]
  · rw [if_neg c1, decide_eq_false (by omega)]
 · rw [if_neg c0, decide_eq_false (by omega)]
def cmpI (a b : Int) : Int := if a < b then -1 else if a > b then 1 else 0
theorem cmp_val (a b : Int) : cmp_Compare_int8.f a b = some (cmpI a b) := by
 unfold cmp_Compare_int8.f cmp_isNaN_int8.f cmpI
 simp only [bne_self_eq_false, Option.bind_some]
 rw [if_neg (by decide), if_neg (by decide)]
 split
 · rfl
 · split <;> rfl
def cmpS (a b : Sl) : Int := if cmpI a.f1 b.f1 = 0 then cmpI a.f0 b.f0 else cmpI a.f1 b.f1
theorem or_val (a b : Int) : Ev (fun k => cmp_Or_int.f k [a, b]) (if a = 0 then b else a) := by
 unfold cmp_Or_int.f
 refine Ev.step (fun k => cmp_Or_int.l0.eq_2 _ _ _ _ _) (Ev.ite_pos (by simp) (Ev.ite_pos (by omega) (Ev.ite_pos (by simp) ?_)))
 have e0 : rd [a, b] 0 = a := rfl
 have e1 : rd [a, b] 1 = b := rfl
 rw [e0, w64 (x := (0 : Int) + 1) (by omega) (by omega), show (0 : Int) + 1 = 1 by omega]
 by_cases h : a = 0
 ·
  rw [if_pos h]
  refine Ev.ite_pos h (Ev.step (fun k => cmp_Or_int.l0.eq_2 _ _ _ _ _) (Ev.ite_pos (by simp) (Ev.ite_pos (by omega) (Ev.ite_pos (by simp) ?_))))
  rw [e1, w64 (x := (1 : Int) + 1) (by omega) (by omega), show (1 : Int) + 1 = 2 by omega]
  by_cases h1 : b = 0
  ·
   rw [h1]
   exact Ev.ite_pos rfl (Ev.step (fun k => cmp_Or_int.l0.eq_2 _ _ _ _ _) (Ev.ite_neg (by simp) (Ev.now _)))
  · exact Ev.ite_neg h1 (Ev.now _)
 ·
  rw [if_neg h]
  exact Ev.ite_neg h (Ev.now _)
theorem cmpS_val (a b : Sl) : Ev (fun k => impl_compareSlabs.f k a.f0 a.f1 a.f2 a.f3 b.f0 b.f1 b.f2 b.f3) (cmpS a b) := by
 unfold impl_compareSlabs.f
 refine Ev.call (a := (a.f0, a.f1)) rfl (Ev.call (a := (b.f0, b.f1)) rfl (Ev.bind (a := cmpS a b) ?_ (Ev.now _)))
 unfold impl_compareCells.f
 exact Ev.call (cmp_val _ _) (Ev.call (cmp_val _ _) (Ev.bind (or_val _ _) (Ev.now _)))
theorem cmpS_pos (a b : Sl) : cmpS a b > 0 ↔ before b a = true := by
 unfold cmpS cmpI before
 rw [decide_eq_true_eq]
 by_cases h1 : a.f1 < b.f1
 ·
  rw [if_pos h1, if_neg (by decide)]
  omega
 ·
  rw [if_neg h1]
  by_cases h2 : a.f1 > b.f1
  ·
   rw [if_pos h2, if_neg (by decide)]
   omega
  ·
   rw [if_neg h2, if_pos rfl]
   by_cases h3 : a.f0 < b.f0
   · rw [if_pos h3]; omega
   ·
    rw [if_neg h3]
    by_cases h4 : a.f0 > b.f0
    · rw [if_pos h4]; omega
    · rw [if_neg h4]; omega
theorem anyMeets (s : Sl) (l : List Sl) (hs : smallS s) (hl : l.length ≤ 1048576) (hm : ∀ t ∈ l, smallS t) : Ev (fun k => slices_ContainsFunc_impl_Slab_at_impl_Slab_meets.f k l s.f0 s.f1 s.f2 s.f3) (l.any (meets s)) := by
 unfold slices_ContainsFunc_impl_Slab_at_impl_Slab_meets.f
 refine Ev.bind (a := findFrom (meets s) 0 l) ?_ (Ev.eq_ (Ev.now _) (findFrom_ge _ l 0))
 unfold slices_IndexFunc_impl_Slab_at_impl_Slab_meets.f
 have one : ∀ i (h : i < l.length), impl_Slab_meets.f s.f0 s.f1 s.f2 s.f3 (rd_T45 l (i : Int)).f0 (rd_T45 l (i : Int)).f1 (rd_T45 l (i : Int)).f2 (rd_T45 l (i : Int)).f3 = some (meets s l[i]) := by
  intro i h
  rw [rdI_get h]
  exact meets_val s _ hs (hm _ (List.getElem_mem h))
 refine Ev.find (L := fun k i => slices_IndexFunc_impl_Slab_at_impl_Slab_meets.l0 k l (l.length : Int) (i : Int) s.f0 s.f1 s.f2 s.f3) l (meets s) ?_ ?_ ?_
 ·
  intro i hi hp r hr
  refine Ev.step (fun k => slices_IndexFunc_impl_Slab_at_impl_Slab_meets.l0.eq_2 _ _ _ _ _ _ _ _) (Ev.ite_pos (by omega) (Ev.ite_pos (by omega) (Ev.ite_pos (by omega) (Ev.call (one i hi) ?_))))
  rw [w64_succ (by omega), hp]
  exact Ev.ite_neg (by decide) hr
 ·
  intro i hi hp
  refine Ev.step (fun k => slices_IndexFunc_impl_Slab_at_impl_Slab_meets.l0.eq_2 _ _ _ _ _ _ _ _) (Ev.ite_pos (by omega) (Ev.ite_pos (by omega) (Ev.ite_pos (by omega) (Ev.call (one i hi) ?_))))
  rw [hp]
  exact Ev.ite_pos rfl (Ev.now _)
 · exact Ev.step (fun k => slices_IndexFunc_impl_Slab_at_impl_Slab_meets.l0.eq_2 _ _ _ _ _ _ _ _) (Ev.ite_neg (by omega) (Ev.now _))
theorem implLoop (q : Sq) (hq : smallQ q) (hW : q.f0 ≤ 12) (hH : q.f1 ≤ 12) : Ev (fun k => impl_ValidSquare.l0 k q.f2 (q.f2.length : Int) 0 q.f0 q.f1 q.f2) (loopV (fun i (_ : Unit) => sqC q.f0 q.f1 q.f2 i) (fun _ s => s) (fun _ _ => false) (fun _ => true) q.f2.length 0 ()) := by
 obtain ⟨q0, q1, q2, q3⟩ := hq
 have inn : ∀ i, i < q.f2.length → impl_Slab_isIn.f (rd_T45 q.f2 (i : Int)).f0 (rd_T45 q.f2 (i : Int)).f1 (rd_T45 q.f2 (i : Int)).f2 (rd_T45 q.f2 (i : Int)).f3 q.f0 q.f1 q.f2 = some (lies q.f0 q.f1 (rdS q.f2 i)) := fun i hi => isIn_val q (rdS q.f2 i) ⟨q0, q1⟩ (smallQ.at ⟨q0, q1, q2, q3⟩ hi) q.f2
 have anyy : ∀ i, i < q.f2.length → Ev (fun k => slices_ContainsFunc_impl_Slab_at_impl_Slab_meets.f k (q.f2.take ((i : Int)).toNat) (rd_T45 q.f2 (i : Int)).f0 (rd_T45 q.f2 (i : Int)).f1 (rd_T45 q.f2 (i : Int)).f2 (rd_T45 q.f2 (i : Int)).f3) ((q.f2.take i).any (meets (rdS q.f2 i))) := by
  intro i hi
  rw [Int.toNat_natCast]
  exact anyMeets (rdS q.f2 i) _ (smallQ.at ⟨q0, q1, q2, q3⟩ hi) (by rw [List.length_take]; omega) (fun t ht => q3 t (List.mem_of_mem_take ht))
 refine Ev.loop (L := fun k (_ : Unit) (i : Nat) => impl_ValidSquare.l0 k q.f2 (q.f2.length : Int) i q.f0 q.f1 q.f2) q.f2.length _ _ _ _ (fun i _ => ∀ s ∈ q.f2.take i, lies 12 12 s = true) ?_ ?_ ?_ q.f2.length 0 () (by omega) (by simp)
 ·
  rintro i s hi hI hc
  unfold sqC at hc
  rw [Bool.and_eq_true, Bool.and_eq_true, Bool.not_eq_true'] at hc
  obtain ⟨⟨c1, c2⟩, c3⟩ := hc
  refine ⟨?_, fun r hr => Ev.step (fun k => impl_ValidSquare.l0.eq_2 _ _ _ _ _ _ _) ?_⟩
  ·
   intro t ht
   rw [List.take_succ_eq_append_getElem hi] at ht
   rcases List.mem_append.1 ht with ht | ht
   · exact hI t ht
   ·
    obtain rfl := List.mem_singleton.1 ht
    have e : rdS q.f2 i = q.f2[i] := rdI_get hi
    rw [e] at c1
    exact lies12 hW hH c1
  ·
   refine Ev.ite_pos (by omega) (Ev.ite_pos (by omega) (Ev.ite_pos (by omega) (Ev.call (inn i hi) ?_)))
   rw [w64_succ (by omega)]
   refine Ev.ite_pos c1 (Ev.ite_pos (by omega) (Ev.bind (anyy i hi) ?_))
   rw [c2]
   refine Ev.ite_neg (by decide) ?_
   by_cases h0 : (i : Int) > 0
   ·
    rw [w64 (x := (i : Int) - 1) (by omega) (by omega)]
    refine Ev.ite_pos h0 (Ev.ite_pos (by omega) (Ev.ite_pos (by omega) (Ev.bind (cmpS_val (rdS q.f2 ((i : Int) - 1)) (rdS q.f2 i)) (Ev.ite_neg ?_ hr))))
    rw [cmpS_pos]
    have hb : before (rdS q.f2 ((i : Int) - 1)) (rdS q.f2 i) = true := by
     rw [decide_eq_false (by omega), Bool.false_or] at c3
     exact c3
    unfold before at hb ⊢
    rw [decide_eq_true_eq] at hb ⊢
    omega
   · exact Ev.ite_neg h0 hr
 ·
  rintro i s hi hI hc
  refine Ev.step (fun k => impl_ValidSquare.l0.eq_2 _ _ _ _ _ _ _) (Ev.ite_pos (by omega) (Ev.ite_pos (by omega) (Ev.ite_pos (by omega) (Ev.call (inn i hi) ?_))))
  unfold sqC at hc
  by_cases c1 : lies q.f0 q.f1 (rdS q.f2 i) = true
  ·
   refine Ev.ite_pos c1 (Ev.ite_pos (by omega) (Ev.bind (anyy i hi) ?_))
   by_cases c2 : (q.f2.take i).any (meets (rdS q.f2 i)) = true
   · exact Ev.ite_pos c2 (Ev.now _)
   ·
    have c2' : (q.f2.take i).any (meets (rdS q.f2 i)) = false := by simpa using c2
    rw [c1, c2', Bool.not_false, Bool.true_and, Bool.true_and, Bool.or_eq_false_iff, decide_eq_false_iff_not] at hc
    obtain ⟨hc0, hcb⟩ := hc
    refine Ev.ite_neg c2 (Ev.ite_pos (by omega) ?_)
    rw [w64 (x := (i : Int) - 1) (by omega) (by omega)]
    refine Ev.ite_pos (by omega) (Ev.ite_pos (by omega) (Ev.bind (cmpS_val (rdS q.f2 ((i : Int) - 1)) (rdS q.f2 i)) (Ev.ite_pos ?_ (Ev.now _))))
    rw [cmpS_pos]
    have em : rdS q.f2 ((i : Int) - 1) ∈ q.f2.take i := by
     have e : (i : Int) - 1 = ((i - 1 : Nat) : Int) := by omega
     have e2 : rdS q.f2 ((i - 1 : Nat) : Int) = q.f2[i - 1] := rdI_get (by omega)
     rw [e, e2, List.mem_take_iff_getElem]
     exact ⟨i - 1, by omega, rfl⟩
    have hp := of_decide_eq_true (hI _ em)
    have hs := of_decide_eq_true (lies12 hW hH c1)
    have hm : ¬ meets (rdS q.f2 i) (rdS q.f2 ((i : Int) - 1)) = true := by
     rw [List.any_eq_false] at c2'
     exact c2' _ em
    unfold meets at hm
    unfold before at hcb ⊢
    rw [decide_eq_true_eq] at hm ⊢
    rw [decide_eq_false_iff_not] at hcb
    omega
  · exact Ev.ite_neg c1 (Ev.now _)
 ·
  intro s _
  exact Ev.step (fun k => impl_ValidSquare.l0.eq_2 _ _ _ _ _ _ _) (Ev.ite_neg (by omega) (Ev.now _))
theorem implValid (q : Sq) (hq : smallQ q) : Ev (fun k => impl_ValidSquare.f k q.f0 q.f1 q.f2) (sqB q) := by
 unfold impl_ValidSquare.f
 rw [small_w hq.1, small_w hq.2.1]
 have no : sqB q = false → Ev (fun k => impl_ValidSquare.j0 k true q.f0 q.f1 q.f2) (sqB q) := by
  intro e
  rw [e]
  exact Ev.step (fun k => impl_ValidSquare.j0.eq_2 _ _ _ _ _) (Ev.ite_pos rfl (Ev.now _))
 refine Ev.call (isEdge_val _) ?_
 by_cases h0 : inB q.f0 1 12 = true
 ·
  refine Ev.ite_pos h0 (Ev.call (isEdge_val _) ?_)
  by_cases h1 : inB q.f1 1 12 = true
  ·
   refine Ev.ite_pos h1 ?_
   by_cases h2 : (q.f2.length : Int) > 60
   ·
    rw [decide_eq_true h2]
    exact no (by unfold sqB; rw [show decide (q.f2.length ≤ 60) = false from decide_eq_false (by omega)]; simp)
   ·
    rw [decide_eq_false h2]
    have e : sqB q = loopV (fun i (_ : Unit) => sqC q.f0 q.f1 q.f2 i) (fun _ s => s) (fun _ _ => false) (fun _ => true) q.f2.length 0 () := by unfold sqB; rw [h0, h1, show decide (q.f2.length ≤ 60) = true from decide_eq_true (by omega)]; simp
    rw [e]
    exact Ev.step (fun k => impl_ValidSquare.j0.eq_2 _ _ _ _ _) (Ev.ite_neg (by decide) (implLoop q hq (inB_iff.1 h0).2 (inB_iff.1 h1).2))
  · exact Ev.ite_neg h1 (no (by unfold sqB; rw [show inB q.f1 1 12 = false by simpa using h1]; simp))
 · exact Ev.ite_neg h0 (no (by unfold sqB; rw [show inB q.f0 1 12 = false by simpa using h0]; simp))
def sqOf (x : S25) : Sq := ⟨x.f0, x.f1, x.f2.map slabOf⟩
theorem toSq (x : S25) (h : x.f2.length ≤ 35184372088832) : Ev (fun k => laws_toSquare.f k x.f0 x.f1 x.f2) (x.f0, x.f1, (sqOf x).f2) := by
 unfold laws_toSquare.f
 exact Ev.bind (toSlabs x.f2 h) (Ev.now _)
theorem eqSq (q : Sq) (h : q.f2.length ≤ 4611686018427387904) : Ev (fun k => laws_eqSquare.f k q.f0 q.f1 q.f2 q.f0 q.f1 q.f2) true := by
 unfold laws_eqSquare.f
 exact Ev.ite_pos rfl (Ev.ite_pos rfl (Ev.bind (eqSlabs _ h) (Ev.ite_pos rfl (Ev.now _))))
theorem szSq (x : S25) (h : x.f2.length ≤ 9223372036854775807) : laws_szSquare.f x.f0 x.f1 x.f2 1048576 = some (if (1048576 : Int) < x.f2.length then (-1 : Int) else 1048576 - (x.f2.length : Int)) := by
 unfold laws_szSquare.f
 rw [szSlabs _ _ h (by omega) (by omega), Option.bind_some]
 by_cases hc : (1048576 : Int) < x.f2.length
 · rw [if_pos hc, if_pos (by decide)]
 · rw [if_neg hc, if_neg (by omega)]
theorem wf8 {x : Int} (h : (Lit.int .i8 x).wf = true) : small x := by
 have h2 : IntKind.i8.min ≤ x ∧ x ≤ IntKind.i8.max := by simpa [Lit.wf] using h
 have e0 : IntKind.i8.min = -128 := rfl
 have e1 : IntKind.i8.max = 127 := rfl
 unfold small
 omega
end Go.Proofs.Ytbdhmfjeamjfdaa.Q

namespace Go.Proofs.Ytbdhmfjeamjfdaa.Q
open Go.RowKit Go.Proofs.YtbdhmfjeamjfdaaW.PrintWords Go.Proofs.YtbdhmfjeamjfdaaW.PrintLast Go.Proofs.YtbdhmfjeamjfdaaW.PrintMore
theorem sq_small {x : S25} (h : wf25 x) (hl : x.f2.length ≤ 1048576) : smallQ (sqOf x) := by
 obtain ⟨h0, h1, -, h2⟩ := h
 refine ⟨wf8 h0, wf8 h1, by show (x.f2.map slabOf).length ≤ _; rw [List.length_map]; exact hl, fun s hs => ?_⟩
 obtain ⟨z, hz, rfl⟩ := List.mem_map.1 hs
 obtain ⟨g0, g1, g2, g3⟩ := h2 z hz
 exact ⟨wf8 g0, wf8 g1, wf8 g2, wf8 g3⟩
end Go.Proofs.Ytbdhmfjeamjfdaa.Q

namespace Go.Proofs.Ytbdhmfjeamjfdaa.Q
open Go.RowKit Go.Proofs.YtbdhmfjeamjfdaaW.PrintWords Go.Proofs.YtbdhmfjeamjfdaaW.PrintLast Go.Proofs.YtbdhmfjeamjfdaaW.PrintMore
set_option linter.unusedVariables false
set_option linter.unusedSimpArgs false
theorem specOk (q : Sq) (hq : smallQ q) : Ev (fun k => spec_l01Ok.f k [q]) (sqB q) := by
 unfold spec_l01Ok.f
 refine Ev.bind (lay_val q hq) (Ev.ite_pos (layV_len q) (Ev.eq_ (Ev.now _) (layV_spec q).1))
theorem sqB_edges {q : Sq} (h : sqB q = true) : (1 ≤ q.f0 ∧ q.f0 ≤ 12) ∧ (1 ≤ q.f1 ∧ q.f1 ≤ 12) ∧ q.f2.length ≤ 60 := by
 unfold sqB at h
 rw [Bool.and_eq_true, Bool.and_eq_true, Bool.and_eq_true, decide_eq_true_eq] at h
 exact ⟨inB_iff.1 h.1.1.1, inB_iff.1 h.1.1.2, h.1.2⟩
end Go.Proofs.Ytbdhmfjeamjfdaa.Q

namespace Go.Proofs.Ytbdhmfjeamjfdaa.Q
open Go.RowKit Go.Proofs.YtbdhmfjeamjfdaaW.PrintWords Go.Proofs.YtbdhmfjeamjfdaaW.PrintLast Go.Proofs.YtbdhmfjeamjfdaaW.PrintMore
set_option linter.unusedVariables false
set_option linter.unusedSimpArgs false
def isSz (w h : Int) (s : Sl) : Bool := decide (s.f2 = w ∧ s.f3 = h)
def cntZ (l : List Sl) (w h : Int) : Nat := (l.filter (isSz w h)).length
theorem cntZ_cons (x : Sl) (l : List Sl) (w h : Int) : cntZ (x :: l) w h = if isSz w h x = true then cntZ l w h + 1 else cntZ l w h := by
 unfold cntZ
 by_cases c : isSz w h x = true
 · rw [if_pos c, List.filter_cons_of_pos c, List.length_cons]
 · rw [if_neg c, List.filter_cons_of_neg c]
def rowZ (l : List Sl) (w : Nat) : Nat → Nat → List Sl
 | 0, _ => []
 | d + 1, h => if 0 < cntZ l (w : Int) (h : Int) then ⟨0, 0, (w : Int), (h : Int)⟩ :: rowZ l w d (h + 1) else rowZ l w d (h + 1)
def rowsZ (l : List Sl) (H : Nat) : Nat → Nat → List Sl
 | 0, _ => []
 | d + 1, w => rowZ l w H 1 ++ rowsZ l H d (w + 1)
def cntsZ (l ss : List Sl) : List Int := ss.map fun s => (cntZ l s.f2 s.f3 : Int)
def sizesR (q : Sq) : List Sl × List Int × Int := if sqB q = true then (rowsZ q.f2 q.f1.toNat q.f0.toNat 1, cntsZ q.f2 (rowsZ q.f2 q.f1.toNat q.f0.toNat 1), 0) else ([], [], 1)
theorem rowZ_len (l : List Sl) (w : Nat) : ∀ d h, (rowZ l w d h).length ≤ d
 | 0, _ => Nat.le_refl _
 | d + 1, h => by
  have := rowZ_len l w d (h + 1)
  rw [rowZ]
  by_cases c : 0 < cntZ l (w : Int) (h : Int)
  · rw [if_pos c, List.length_cons]; omega
  · rw [if_neg c]; omega
theorem size_cnt (q : Sq) (hq : smallQ q) (a : List Sl) (b : List Int) (w h : Int) (ha : a.length < 1000) (hb : b.length < 1000) (r : List Sl × List Int × Int) : ∀ (d i n : Nat), i + d = q.f2.length → n ≤ i →
  Ev (fun k => if 0 < n + cntZ (q.f2.drop i) w h then spec_SizesIn.l1 k (a ++ [⟨0, 0, w, h⟩]) (b ++ [((n + cntZ (q.f2.drop i) w h : Nat) : Int)]) w (IntKind.i8.wrap (h + 1)) q.f0 q.f1 q.f2 else spec_SizesIn.l1 k a b w (IntKind.i8.wrap (h + 1)) q.f0 q.f1 q.f2) r →
  Ev (fun k => spec_SizesIn.l2 k a b w h (n : Int) (i : Int) q.f0 q.f1 q.f2) r := by
 have hlen := hq.2.2.1
 intro d
 induction d with
 | zero =>
  intro i n hi hn hk
  rw [List.drop_eq_nil_of_le (by omega), show cntZ [] w h = 0 from rfl, Nat.add_zero] at hk
  refine Ev.step (fun k => spec_SizesIn.l2.eq_2 _ _ _ _ _ _ _ _ _ _) (Ev.ite_neg (by omega) ?_)
  by_cases c : 0 < n
  ·
   refine Ev.ite_pos (by omega) (Ev.ite_pos (by omega) (Ev.ite_pos (by omega) (Ev.congr (fun k => ?_) hk)))
   rw [if_pos c]
  ·
   refine Ev.ite_neg (by omega) (Ev.congr (fun k => ?_) hk)
   rw [if_neg c]
 | succ d ih =>
  intro i n hi hn hk
  have hlt : i < q.f2.length := by omega
  rw [List.drop_eq_getElem_cons hlt, cntZ_cons] at hk
  refine Ev.step (fun k => spec_SizesIn.l2.eq_2 _ _ _ _ _ _ _ _ _ _) (Ev.ite_pos (by omega) (Ev.ite_pos (by omega) ?_))
  rw [rdI_get hlt, w64_succ (i := i) (by omega), w64_succ (i := n) (by omega)]
  by_cases c1 : q.f2[i].f2 = w
  ·
   by_cases c2 : q.f2[i].f3 = h
   ·
    have c : isSz w h q.f2[i] = true := decide_eq_true ⟨c1, c2⟩
    rw [if_pos c, show n + (cntZ (q.f2.drop (i + 1)) w h + 1) = n + 1 + cntZ (q.f2.drop (i + 1)) w h by omega] at hk
    exact Ev.ite_pos c1 (Ev.ite_pos c2 (ih (i + 1) (n + 1) (by omega) (by omega) hk))
   ·
    have c : ¬ isSz w h q.f2[i] = true := by unfold isSz; rw [decide_eq_true_eq]; exact fun e => c2 e.2
    rw [if_neg c] at hk
    exact Ev.ite_pos c1 (Ev.ite_neg c2 (ih (i + 1) n (by omega) (by omega) hk))
  ·
   have c : ¬ isSz w h q.f2[i] = true := by unfold isSz; rw [decide_eq_true_eq]; exact fun e => c1 e.1
   rw [if_neg c] at hk
   exact Ev.ite_neg c1 (ih (i + 1) n (by omega) (by omega) hk)
theorem size_row (q : Sq) (hq : smallQ q) (H : Nat) (hH : q.f1 = H) (hH2 : H ≤ 12) (w : Nat) (hw : 1 ≤ w ∧ w ≤ 12) (r : List Sl × List Int × Int) : ∀ (d h : Nat) (a : List Sl) (b : List Int), h + d = H + 1 → 1 ≤ h → a.length ≤ 12 * w + h → b.length ≤ 12 * w + h →
  Ev (fun k => spec_SizesIn.l0 k (a ++ rowZ q.f2 w d h) (b ++ cntsZ q.f2 (rowZ q.f2 w d h)) ((w + 1 : Nat) : Int) q.f0 q.f1 q.f2) r → Ev (fun k => spec_SizesIn.l1 k a b (w : Int) (h : Int) q.f0 q.f1 q.f2) r := by
 intro d
 induction d with
 | zero =>
  intro h a b hh h1 ha hb hk
  rw [rowZ, show cntsZ q.f2 [] = [] from rfl, List.append_nil, List.append_nil] at hk
  refine Ev.step (fun k => spec_SizesIn.l1.eq_2 _ _ _ _ _ _ _ _) (Ev.ite_neg (by omega) ?_)
  rw [i8w (a := (w : Int) + 1) ⟨by omega, by omega⟩]
  exact hk
 | succ d ih =>
  intro h a b hh h1 ha hb hk
  refine Ev.step (fun k => spec_SizesIn.l1.eq_2 _ _ _ _ _ _ _ _) (Ev.ite_pos (by omega) ?_)
  refine size_cnt q hq a b (w : Int) (h : Int) (by omega) (by omega) r q.f2.length 0 0 (by omega) (Nat.le_refl _) ?_
  rw [List.drop_zero, Nat.zero_add, i8w (a := (h : Int) + 1) ⟨by omega, by omega⟩]
  rw [rowZ] at hk
  by_cases c : 0 < cntZ q.f2 (w : Int) (h : Int)
  ·
   rw [if_pos c] at hk
   refine Ev.ite_pos c (ih (h + 1) _ _ (by omega) (by omega) (by rw [List.length_append]; show _ + 1 ≤ _; omega) (by rw [List.length_append]; show _ + 1 ≤ _; omega) ?_)
   rw [List.append_assoc, List.append_assoc]
   exact hk
  ·
   rw [if_neg c] at hk
   exact Ev.ite_neg c (ih (h + 1) a b (by omega) (by omega) (by omega) (by omega) hk)
theorem size_rows (q : Sq) (hq : smallQ q) (W H : Nat) (hW : q.f0 = W) (hH : q.f1 = H) (hW2 : W ≤ 12) (hH2 : H ≤ 12) : ∀ (d w : Nat) (a : List Sl) (b : List Int), w + d = W + 1 → 1 ≤ w → a.length ≤ 12 * w → b.length ≤ 12 * w →
  Ev (fun k => spec_SizesIn.l0 k a b (w : Int) q.f0 q.f1 q.f2) (a ++ rowsZ q.f2 H d w, b ++ cntsZ q.f2 (rowsZ q.f2 H d w), 0) := by
 intro d
 induction d with
 | zero =>
  intro w a b hw h1 ha hb
  rw [rowsZ, show cntsZ q.f2 [] = [] from rfl, List.append_nil, List.append_nil]
  exact Ev.step (fun k => spec_SizesIn.l0.eq_2 _ _ _ _ _ _ _) (Ev.ite_neg (by omega) (Ev.now _))
 | succ d ih =>
  intro w a b hw h1 ha hb
  refine Ev.step (fun k => spec_SizesIn.l0.eq_2 _ _ _ _ _ _ _) (Ev.ite_pos (by omega) ?_)
  have hl := rowZ_len q.f2 w H 1
  refine size_row q hq H hH hH2 w ⟨h1, by omega⟩ _ H 1 a b (by omega) (Nat.le_refl _) (by omega) (by omega) ?_
  have h := ih (w + 1) (a ++ rowZ q.f2 w H 1) (b ++ cntsZ q.f2 (rowZ q.f2 w H 1)) (by omega) (by omega) (by rw [List.length_append]; omega) (by unfold cntsZ; rw [List.length_append, List.length_map]; omega)
  have e : cntsZ q.f2 (rowZ q.f2 w H 1 ++ rowsZ q.f2 H d (w + 1)) = cntsZ q.f2 (rowZ q.f2 w H 1) ++ cntsZ q.f2 (rowsZ q.f2 H d (w + 1)) := List.map_append
  rw [rowsZ, e, ← List.append_assoc, ← List.append_assoc]
  exact h
theorem specSizes (q : Sq) (hq : smallQ q) : Ev (fun k => spec_SizesIn.f k q.f0 q.f1 q.f2) (sizesR q) := by
 unfold spec_SizesIn.f sizesR
 refine Ev.bind (specOk q hq) ?_
 by_cases h : sqB q = true
 ·
  rw [if_pos h]
  obtain ⟨w, v, -⟩ := sqB_edges h
  exact Ev.ite_pos h (size_rows q hq q.f0.toNat q.f1.toNat (by omega) (by omega) (by omega) (by omega) q.f0.toNat 1 [] [] (by omega) (Nat.le_refl _) (Nat.zero_le _) (Nat.zero_le _))
 ·
  rw [if_neg h]
  exact Ev.ite_neg h (Ev.now _)
end Go.Proofs.Ytbdhmfjeamjfdaa.Q

namespace Go.Proofs.Ytbdhmfjeamjfdaa.Q
open Go.RowKit Go.Proofs.YtbdhmfjeamjfdaaW.PrintWords Go.Proofs.YtbdhmfjeamjfdaaW.PrintLast Go.Proofs.YtbdhmfjeamjfdaaW.PrintMore
set_option linter.unusedVariables false
set_option linter.unusedSimpArgs false
def ltZ (a b : Sl) : Prop := a.f2 < b.f2 ∨ (a.f2 = b.f2 ∧ a.f3 < b.f3)
theorem rowZ_mem {l : List Sl} {w : Nat} {s : Sl} : ∀ {d h : Nat}, s ∈ rowZ l w d h ↔ (s.f0 = 0 ∧ s.f1 = 0 ∧ s.f2 = (w : Int)) ∧ ((h : Int) ≤ s.f3 ∧ s.f3 < (h : Int) + d) ∧ 0 < cntZ l s.f2 s.f3
 | 0, h => by
  rw [rowZ]
  constructor
  · intro e; cases e
  · intro e; omega
 | d + 1, h => by
  rw [rowZ]
  have ih := rowZ_mem (l := l) (w := w) (s := s) (d := d) (h := h + 1)
  by_cases c : 0 < cntZ l (w : Int) (h : Int)
  ·
   rw [if_pos c, List.mem_cons, ih]
   constructor
   ·
    rintro (rfl | ⟨a, b, e⟩)
    · exact ⟨⟨rfl, rfl, rfl⟩, ⟨Int.le_refl _, by show (h : Int) < _; omega⟩, c⟩
    · exact ⟨a, ⟨by omega, by omega⟩, e⟩
   ·
    rintro ⟨a, b, e⟩
    by_cases e3 : s.f3 = (h : Int)
    ·
     left
     obtain ⟨a0, a1, a2⟩ := a
     cases s
     simp_all
    · exact Or.inr ⟨a, ⟨by omega, by omega⟩, e⟩
  ·
   rw [if_neg c, ih]
   constructor
   ·
    rintro ⟨a, b, e⟩
    exact ⟨a, ⟨by omega, by omega⟩, e⟩
   ·
    rintro ⟨a, b, e⟩
    have e3 : ¬ s.f3 = (h : Int) := by
     intro e3
     rw [a.2.2, e3] at e
     exact c e
    exact ⟨a, ⟨by omega, by omega⟩, e⟩
theorem rowsZ_mem {l : List Sl} {H : Nat} {s : Sl} : ∀ {d w : Nat}, s ∈ rowsZ l H d w ↔ (s.f0 = 0 ∧ s.f1 = 0) ∧ ((w : Int) ≤ s.f2 ∧ s.f2 < (w : Int) + d) ∧ (1 ≤ s.f3 ∧ s.f3 ≤ (H : Int)) ∧ 0 < cntZ l s.f2 s.f3
 | 0, w => by
  rw [rowsZ]
  constructor
  · intro e; cases e
  · intro e; omega
 | d + 1, w => by
  rw [rowsZ, List.mem_append, rowZ_mem, rowsZ_mem (d := d) (w := w + 1)]
  constructor
  ·
   rintro (⟨a, b, e⟩ | ⟨a, b, b2, e⟩)
   · exact ⟨⟨a.1, a.2.1⟩, ⟨by omega, by omega⟩, ⟨by omega, by omega⟩, e⟩
   · exact ⟨a, ⟨by omega, by omega⟩, b2, e⟩
  ·
   rintro ⟨a, b, b2, e⟩
   by_cases e2 : s.f2 = (w : Int)
   · exact Or.inl ⟨⟨a.1, a.2, e2⟩, ⟨by omega, by omega⟩, e⟩
   · exact Or.inr ⟨a, ⟨by omega, by omega⟩, b2, e⟩
theorem rowZ_sorted (l : List Sl) (w : Nat) : ∀ (d h : Nat), (rowZ l w d h).Pairwise ltZ
 | 0, _ => by rw [rowZ]; exact List.Pairwise.nil
 | d + 1, h => by
  rw [rowZ]
  by_cases c : 0 < cntZ l (w : Int) (h : Int)
  ·
   rw [if_pos c, List.pairwise_cons]
   refine ⟨fun s hs => ?_, rowZ_sorted l w d (h + 1)⟩
   have := rowZ_mem.1 hs
   unfold ltZ
   exact Or.inr ⟨this.1.2.2.symm, by show (h : Int) < _; omega⟩
  ·
   rw [if_neg c]
   exact rowZ_sorted l w d (h + 1)
theorem rowsZ_sorted (l : List Sl) (H : Nat) : ∀ (d w : Nat), (rowsZ l H d w).Pairwise ltZ
 | 0, _ => by rw [rowsZ]; exact List.Pairwise.nil
 | d + 1, w => by
  rw [rowsZ, List.pairwise_append]
  refine ⟨rowZ_sorted l w H 1, rowsZ_sorted l H d (w + 1), fun a ha b hb => ?_⟩
  have h1 := rowZ_mem.1 ha
  have h2 := rowsZ_mem.1 hb
  unfold ltZ
  omega
def ownZ (s : Sl) : Sl := ⟨0, 0, s.f2, s.f3⟩
def firstZ : List Sl → List Sl → List Sl
 | _, [] => []
 | seen, s :: t => if cntZ seen s.f2 s.f3 = 0 then ownZ s :: firstZ (seen ++ [s]) t else firstZ (seen ++ [s]) t
theorem cntZ_append (a b : List Sl) (w h : Int) : cntZ (a ++ b) w h = cntZ a w h + cntZ b w h := by
 unfold cntZ
 rw [List.filter_append, List.length_append]
theorem firstZ_mem {x : Sl} : ∀ {l seen : List Sl}, x ∈ firstZ seen l ↔ (x.f0 = 0 ∧ x.f1 = 0) ∧ cntZ seen x.f2 x.f3 = 0 ∧ 0 < cntZ l x.f2 x.f3
 | [], seen => by
  rw [firstZ]
  constructor
  · intro e; cases e
  ·
   intro e
   have : cntZ [] x.f2 x.f3 = 0 := rfl
   omega
 | s :: t, seen => by
  rw [firstZ]
  have ih := firstZ_mem (x := x) (l := t) (seen := seen ++ [s])
  have e1 : cntZ [s] x.f2 x.f3 = if isSz x.f2 x.f3 s = true then 1 else 0 := by rw [cntZ_cons]; rfl
  rw [cntZ_append, e1] at ih
  rw [cntZ_cons]
  by_cases c : isSz x.f2 x.f3 s = true
  ·
   have c' := of_decide_eq_true c
   rw [if_pos c] at ih ⊢
   have no : x ∉ firstZ (seen ++ [s]) t := fun h => by have := (ih.1 h).2.1; omega
   by_cases c0 : cntZ seen s.f2 s.f3 = 0
   ·
    rw [if_pos c0, List.mem_cons]
    rw [c'.1, c'.2] at c0
    constructor
    ·
     rintro (rfl | h)
     · exact ⟨⟨rfl, rfl⟩, c0, by omega⟩
     · exact absurd h no
    ·
     rintro ⟨⟨a0, a1⟩, -, -⟩
     left
     unfold ownZ
     cases x
     simp_all
   ·
    rw [if_neg c0]
    rw [c'.1, c'.2] at c0
    constructor
    · intro h; exact absurd h no
    · intro h; exact absurd h.2.1 c0
  ·
   rw [if_neg c] at ih ⊢
   rw [Nat.add_zero] at ih
   have ne : ¬ x = ownZ s := fun e => c (by rw [e]; exact decide_eq_true ⟨rfl, rfl⟩)
   by_cases c0 : cntZ seen s.f2 s.f3 = 0
   ·
    rw [if_pos c0, List.mem_cons, ih]
    exact ⟨fun h => h.elim (fun e => absurd e ne) id, Or.inr⟩
   ·
    rw [if_neg c0]
    exact ih
theorem firstZ_nodup : ∀ (l seen : List Sl), (firstZ seen l).Nodup
 | [], seen => by rw [firstZ]; exact List.nodup_nil
 | s :: t, seen => by
  rw [firstZ]
  by_cases c : cntZ seen s.f2 s.f3 = 0
  ·
   rw [if_pos c, List.nodup_cons]
   refine ⟨fun h => ?_, firstZ_nodup t (seen ++ [s])⟩
   have h1 := (firstZ_mem.1 h).2.1
   rw [cntZ_append, show (ownZ s).f2 = s.f2 from rfl, show (ownZ s).f3 = s.f3 from rfl, cntZ_cons, if_pos (show isSz s.f2 s.f3 s = true from decide_eq_true ⟨rfl, rfl⟩)] at h1
   omega
  ·
   rw [if_neg c]
   exact firstZ_nodup t (seen ++ [s])
theorem rowsZ_nodup (l : List Sl) (H d w : Nat) : (rowsZ l H d w).Nodup := by
 refine (rowsZ_sorted l H d w).imp ?_
 rintro a b h rfl
 unfold ltZ at h
 omega
theorem cntZ_pos {l : List Sl} {w h : Int} (hc : 0 < cntZ l w h) : ∃ x ∈ l, x.f2 = w ∧ x.f3 = h := by
 unfold cntZ at hc
 obtain ⟨x, hx⟩ := List.exists_mem_of_length_pos hc
 obtain ⟨h1, h2⟩ := List.mem_filter.1 hx
 exact ⟨x, h1, of_decide_eq_true h2⟩
theorem sizes_eq (l s : List Sl) (W H : Nat) (hb : ∀ x ∈ l, (1 ≤ x.f2 ∧ x.f2 ≤ (W : Int)) ∧ 1 ≤ x.f3 ∧ x.f3 ≤ (H : Int)) (hp : s.Perm (firstZ [] l)) (ho : s.Pairwise fun a b => ¬ ltZ b a) : s = rowsZ l H W 1 := by
 have hpp : (firstZ [] l).Perm (rowsZ l H W 1) := by
  refine (List.perm_ext_iff_of_nodup (firstZ_nodup l []) (rowsZ_nodup l H W 1)).2 fun x => ?_
  rw [firstZ_mem, rowsZ_mem]
  constructor
  ·
   rintro ⟨a, -, e⟩
   obtain ⟨y, hy, e2, e3⟩ := cntZ_pos e
   have := hb y hy
   exact ⟨a, ⟨by omega, by omega⟩, ⟨by omega, by omega⟩, e⟩
  ·
   rintro ⟨a, -, -, e⟩
   exact ⟨a, rfl, e⟩
 have hs := hp.trans hpp
 refine List.Perm.eq_of_pairwise (le := fun a b => ¬ ltZ b a) ?_ ho ((rowsZ_sorted l H W 1).imp ?_) hs
 ·
  intro a b ha hb' h1 h2
  have m1 := rowsZ_mem.1 (hs.mem_iff.1 ha)
  have m2 := rowsZ_mem.1 hb'
  unfold ltZ at h1 h2
  obtain ⟨a0, a1, a2, a3⟩ := a
  obtain ⟨b0, b1, b2, b3⟩ := b
  obtain ⟨⟨x0, x1⟩, -⟩ := m1
  obtain ⟨⟨y0, y1⟩, -⟩ := m2
  simp only at x0 x1 y0 y1 h1 h2
  have e2 : a2 = b2 := by omega
  have e3 : a3 = b3 := by omega
  rw [x0, x1, y0, y1, e2, e3]
 ·
  intro a b h1 h2
  unfold ltZ at h1 h2
  omega
end Go.Proofs.Ytbdhmfjeamjfdaa.Q

namespace Go.Proofs.Ytbdhmfjeamjfdaa.Q
open Go.RowKit Go.Proofs.YtbdhmfjeamjfdaaW.PrintWords Go.Proofs.YtbdhmfjeamjfdaaW.PrintLast Go.Proofs.YtbdhmfjeamjfdaaW.PrintMore
theorem eqInts (l : List Int) (h : l.length ≤ 4611686018427387904) : Ev (fun k => laws_eqInt64S.f k l l) true := by
 unfold laws_eqInt64S.f
 refine Ev.ite_pos rfl ?_
 refine Ev.run (L := fun k (_ : Unit) (i : Nat) => laws_eqInt64S.l0 k l l i) l.length (fun _ s => s) (fun _ _ => True) true ?_ ?_ (d := l.length) (i := 0) (s := ()) (by omega) trivial
 ·
  rintro i s hi _
  refine ⟨trivial, fun r hr => Ev.step (fun k => laws_eqInt64S.l0.eq_2 _ _ _ _) ?_⟩
  refine Ev.ite_pos (by omega) (Ev.ite_pos (ge0 _) (Ev.ite_pos (by omega) (Ev.ite_pos rfl ?_)))
  rw [w64_succ (by omega)]
  exact hr
 ·
  intro s _
  exact Ev.step (fun k => laws_eqInt64S.l0.eq_2 _ _ _ _) (Ev.ite_neg (by omega) (Ev.now true))
end Go.Proofs.Ytbdhmfjeamjfdaa.Q

namespace Go.Proofs.Ytbdhmfjeamjfdaa.Q
open Go.RowKit Go.Proofs.YtbdhmfjeamjfdaaW.PrintWords Go.Proofs.YtbdhmfjeamjfdaaW.PrintLast Go.Proofs.YtbdhmfjeamjfdaaW.PrintMore
set_option linter.unusedSimpArgs false
def markAt (i : Nat) : S45 := ⟨IntKind.i8.wrap (1 + 4 * (i : Int)), IntKind.i8.wrap (1 + 4 * (i : Int) + 1), IntKind.i8.wrap (1 + 4 * (i : Int) + 1 + 1), IntKind.i8.wrap (1 + 4 * (i : Int) + 1 + 1 + 1)⟩
def markedSlabs (n : Nat) : List S45 := (List.range n).map markAt
theorem rdI_set {l : List S45} {i : Nat} {x : S45} (h : i < l.length) : rd_T45 (l.set i x) (i : Int) = x := by
 rw [rdI_get (by simpa using h)]
 simp
theorem markSlabs (l : List S45) (h : l.length ≤ 1125899906842624) : Ev (fun k => laws_markSlabS.f k l 1) (1 + 4 * (l.length : Int), markedSlabs l.length) := by
 unfold laws_markSlabS.f
 have hm : (markedSlabs l.length).length = l.length := by simp [markedSlabs]
 have h0 := Ev.run (L := fun k (s : List S45) (i : Nat) => laws_markSlabS.l0 k s (1 + 4 * (i : Int)) i) l.length (fun i s => s.set i (markAt i)) (fun i s => s.length = l.length ∧ s.take i = (markedSlabs l.length).take i) (1 + 4 * (l.length : Int), markedSlabs l.length) ?_ ?_ (d := l.length) (i := 0) (s := l) (by omega) ⟨rfl, by simp⟩
 · simpa using h0
 ·
  rintro i s hi ⟨h1, h2⟩
  refine ⟨⟨by simpa using h1, ?_⟩, fun r hr => Ev.step (fun k => laws_markSlabS.l0.eq_2 _ _ _ _) ?_⟩
  ·
   show (s.set i (markAt i)).take (i + 1) = _
   rw [show markAt i = (markedSlabs l.length)[i]'(by omega) by simp [markedSlabs]]
   exact take_set_succ (by omega) (by omega) h2
  ·
   refine Ev.ite_pos (by omega) (Ev.ite_pos (ge0 _) (Ev.call rfl (Ev.call rfl (Ev.call rfl ?_))))
   rw [w64_succ (by omega), Int.toNat_natCast, w64 (x := 1 + 4 * (i : Int) + 1) (by omega) (by omega), w64 (x := 1 + 4 * (i : Int) + 1 + 1) (by omega) (by omega), w64 (x := 1 + 4 * (i : Int) + 1 + 1 + 1) (by omega) (by omega), w64 (x := 1 + 4 * (i : Int) + 1 + 1 + 1 + 1) (by omega) (by omega)]
   rw [rdI_set, rdI_set, rdI_set, List.set_set, List.set_set, List.set_set]
   ·
    rw [show (1 + 4 * (i : Int) + 1 + 1 + 1 + 1) = 1 + 4 * ((i + 1 : Nat) : Int) by omega]
    exact hr
   all_goals first | omega | (simp only [List.length_set]; omega)
 ·
  rintro s ⟨h1, h2⟩
  refine Ev.step (fun k => laws_markSlabS.l0.eq_2 _ _ _ _) (Ev.ite_neg (by omega) ?_)
  rw [List.take_of_length_le (by omega), List.take_of_length_le (by omega)] at h2
  rw [h2]
  exact Ev.now _
theorem heldSlabs (n : Nat) (h : n ≤ 1125899906842624) : Ev (fun k => laws_heldSlabS.f k (markedSlabs n) 1) (1 + 4 * (n : Int)) := by
 unfold laws_heldSlabS.f
 have hm : (markedSlabs n).length = n := by simp [markedSlabs]
 have h0 := Ev.run (L := fun k (_ : Unit) (i : Nat) => laws_heldSlabS.l0 k (markedSlabs n) (1 + 4 * (i : Int)) i) n (fun _ s => s) (fun _ _ => True) (1 + 4 * (n : Int)) ?_ ?_ (d := n) (i := 0) (s := ()) (by omega) trivial
 · simpa using h0
 ·
  rintro i s hi _
  refine ⟨trivial, fun r hr => Ev.step (fun k => laws_heldSlabS.l0.eq_2 _ _ _ _) ?_⟩
  have hg : rd_T45 (markedSlabs n) i = markAt i := by
   rw [rdI_get (by omega)]
   simp [markedSlabs]
  rw [w64_succ (by omega), w64 (x := 1 + 4 * (i : Int) + 1) (by omega) (by omega), w64 (x := 1 + 4 * (i : Int) + 1 + 1) (by omega) (by omega), w64 (x := 1 + 4 * (i : Int) + 1 + 1 + 1) (by omega) (by omega), w64 (x := 1 + 4 * (i : Int) + 1 + 1 + 1 + 1) (by omega) (by omega), hg]
  refine Ev.ite_pos (by omega) (Ev.ite_pos (ge0 _) (Ev.ite_pos rfl (Ev.ite_pos rfl (Ev.ite_pos rfl (Ev.ite_pos rfl ?_)))))
  rw [show (1 + 4 * (i : Int) + 1 + 1 + 1 + 1) = 1 + 4 * ((i + 1 : Nat) : Int) by omega]
  exact hr
 ·
  intro s _
  exact Ev.step (fun k => laws_heldSlabS.l0.eq_2 _ _ _ _) (Ev.ite_neg (by omega) (Ev.now _))
end Go.Proofs.Ytbdhmfjeamjfdaa.Q

namespace Go.Proofs.Ytbdhmfjeamjfdaa.Q
open Go.RowKit Go.Proofs.YtbdhmfjeamjfdaaW.PrintWords Go.Proofs.YtbdhmfjeamjfdaaW.PrintLast Go.Proofs.YtbdhmfjeamjfdaaW.PrintMore
set_option linter.unusedVariables false
set_option linter.unusedSimpArgs false
theorem markSq (q : Sq) (h : q.f2.length ≤ 1125899906842624) : Ev (fun k => laws_markSquare.f k q.f0 q.f1 q.f2 1) (1 + 4 * (q.f2.length : Int), markedSlabs q.f2.length) := by
 unfold laws_markSquare.f
 exact Ev.bind (markSlabs q.f2 h) (Ev.now _)
end Go.Proofs.Ytbdhmfjeamjfdaa.Q

namespace Go.Proofs.Ytbdhmfjeamjfdaa.Q
open Go.RowKit Go.Proofs.YtbdhmfjeamjfdaaW.PrintWords Go.Proofs.YtbdhmfjeamjfdaaW.PrintLast Go.Proofs.YtbdhmfjeamjfdaaW.PrintMore
set_option linter.unusedVariables false
def Pure.FnExactSizesIn : Prop := ∀ (x0 : S25), wf25 x0 → ∃ k, laws_FnExactSizesIn.f k x0.f0 x0.f1 x0.f2 = some true
theorem loopV_all {c : Nat → Unit → Bool} : ∀ (d i : Nat), loopV c (fun _ s => s) (fun _ _ => false) (fun _ => true) d i () = true → ∀ j, i ≤ j → j < i + d → c j () = true := by
  intro d
  induction d with
  | zero => intro i _ j h1 h2; omega
  | succ d ih =>
    intro i h j h1 h2
    unfold loopV at h
    by_cases hc : c i () = true
    · rw [if_pos hc] at h
      by_cases e : j = i
      · rw [e]; exact hc
      · exact ih (i + 1) h j (by omega) (by omega)
    · rw [if_neg hc] at h
      cases h
theorem sqB_lie {q : Sq} (h : sqB q = true) : ∀ s ∈ q.f2, lies q.f0 q.f1 s = true := by
  intro s hs
  obtain ⟨i, hi, rfl⟩ := List.getElem_of_mem hs
  have h0 := h
  unfold sqB at h0
  rw [Bool.and_eq_true] at h0
  have h1 := loopV_all _ _ h0.2 i (Nat.zero_le _) (by omega)
  unfold sqC at h1
  rw [Bool.and_eq_true, Bool.and_eq_true] at h1
  have h2 := h1.1.1
  unfold rdS at h2
  rwa [rdI_get hi] at h2
def markedAt (s : Int) (n : Nat) : List Int := (List.range n).map fun (j : Nat) => s + (j : Int)
theorem markFrom (l : List Int) (s0 : Int) (h : l.length ≤ 4611686018427387904) (p0 : 0 ≤ s0) (p1 : s0 ≤ 1125899906842624) : Ev (fun k => laws_markInt64S.f k l s0) (s0 + (l.length : Int), markedAt s0 l.length) := by
  unfold laws_markInt64S.f
  have h0 := Ev.run (L := fun k (s : List Int) (i : Nat) => laws_markInt64S.l0 k s (s0 + (i : Int)) i) l.length (fun i s => s.set i (s0 + (i : Int))) (fun i s => s.length = l.length ∧ s.take i = (markedAt s0 l.length).take i) (s0 + (l.length : Int), markedAt s0 l.length) ?_ ?_ (d := l.length) (i := 0) (s := l) (by omega) ⟨rfl, by simp⟩
  · simpa using h0
  · rintro i s hi ⟨h1, h2⟩
    have hm : (markedAt s0 l.length).length = l.length := by simp [markedAt]
    refine ⟨⟨by simpa using h1, ?_⟩, fun r hr => Ev.step (fun k => laws_markInt64S.l0.eq_2 _ _ _ _) ?_⟩
    · have e : (s0 + (i : Int)) = (markedAt s0 l.length)[i]'(by omega) := by simp [markedAt]
      show (s.set i (s0 + (i : Int))).take (i + 1) = _
      rw [e]
      exact take_set_succ (by omega) (by omega) h2
    · refine Ev.ite_pos (by omega) (Ev.ite_pos (ge0 _) ?_)
      rw [w64_succ (by omega), Int.toNat_natCast, w64 (by omega) (by omega), show (s0 + (i : Int) + 1) = s0 + ((i + 1 : Nat) : Int) by omega]
      exact hr
  · rintro s ⟨h1, h2⟩
    have hm : (markedAt s0 l.length).length = l.length := by simp [markedAt]
    refine Ev.step (fun k => laws_markInt64S.l0.eq_2 _ _ _ _) (Ev.ite_neg (by omega) ?_)
    rw [List.take_of_length_le (by omega), List.take_of_length_le (by omega)] at h2
    rw [h2]
    exact Ev.now _
theorem heldFrom (n : Nat) (s0 : Int) (h : n ≤ 4611686018427387904) (p0 : 0 ≤ s0) (p1 : s0 ≤ 1125899906842624) : Ev (fun k => laws_heldInt64S.f k (markedAt s0 n) s0) (s0 + (n : Int)) := by
  unfold laws_heldInt64S.f
  have hm : (markedAt s0 n).length = n := by simp [markedAt]
  have h0 := Ev.run (L := fun k (_ : Unit) (i : Nat) => laws_heldInt64S.l0 k (markedAt s0 n) (s0 + (i : Int)) i) n (fun _ s => s) (fun _ _ => True) (s0 + (n : Int)) ?_ ?_ (d := n) (i := 0) (s := ()) (by omega) trivial
  · simpa using h0
  · rintro i s hi _
    refine ⟨trivial, fun r hr => Ev.step (fun k => laws_heldInt64S.l0.eq_2 _ _ _ _) ?_⟩
    refine Ev.ite_pos (by omega) (Ev.ite_pos (ge0 _) (Ev.ite_pos ?_ ?_))
    · rw [rd_get (by omega)]
      simp [markedAt]
    · rw [w64_succ (by omega), w64 (by omega) (by omega), show (s0 + (i : Int) + 1) = s0 + ((i + 1 : Nat) : Int) by omega]
      exact hr
  · intro s _
    exact Ev.step (fun k => laws_heldInt64S.l0.eq_2 _ _ _ _) (Ev.ite_neg (by omega) (Ev.now _))
theorem cnt_is (l : List Sl) (w h : Int) : Sz.cnt l (w, h) = (cntZ l w h : Int) := by
  unfold Sz.cnt cntZ
  congr 2
  refine List.filter_congr fun s _ => ?_
  unfold isSz Sz.key
  simp [Prod.ext_iff]
theorem firsts_first (l : List Sl) : ∀ i, i ≤ l.length → Sz.firsts l i ++ firstZ (l.take i) (l.drop i) = firstZ [] l
  | 0, _ => by simp [Sz.firsts]
  | i + 1, h => by
    have ih := firsts_first l i (by omega)
    rw [← ih, Sz.firsts, List.drop_eq_getElem_cons (i := i) (by omega), firstZ, Sz.rd_get (by omega), ← List.take_succ_eq_append_getElem (by omega)]
    have e : Sz.cnt (l.take i) (Sz.key l[i]) = (cntZ (l.take i) l[i].f2 l[i].f3 : Int) := cnt_is _ _ _
    rw [e]
    by_cases c : cntZ (l.take i) l[i].f2 l[i].f3 = 0
    · rw [if_pos c, if_pos (by omega), List.append_assoc]
      rfl
    · rw [if_neg c, if_neg (by omega)]
theorem implSizes (q : Sq) (hq : smallQ q) : Ev (fun k => impl_SizesIn.f k q.f0 q.f1 q.f2) (sizesR q) := by
  unfold impl_SizesIn.f sizesR
  refine Ev.bind (implValid q hq) ?_
  by_cases h : sqB q = true
  · rw [if_pos h, if_pos h]
    obtain ⟨w, v, hl⟩ := sqB_edges h
    have hok : Sz.ok q.f2 := ⟨hl, fun s hs => ⟨(hq.2.2.2 s hs).2.2.1, (hq.2.2.2 s hs).2.2.2⟩⟩
    rw [if_pos hok]
    have hf : Sz.firsts q.f2 q.f2.length = firstZ [] q.f2 := by
      have := firsts_first q.f2 q.f2.length (Nat.le_refl _)
      rwa [List.drop_length, firstZ, List.append_nil] at this
    have hs : sort2 (fun x : Sl => x.f2) (fun x : Sl => x.f3) (Sz.firsts q.f2 q.f2.length) = rowsZ q.f2 q.f1.toNat q.f0.toNat 1 := by
      refine sizes_eq q.f2 _ q.f0.toNat q.f1.toNat (fun x hx => ?_) ?_ (sort2_sorted _ _ _)
      · have h1 := of_decide_eq_true (sqB_lie h x hx)
        omega
      · rw [← hf]
        exact sort2_perm _ _ _
    rw [hs]
    have he : (rowsZ q.f2 q.f1.toNat q.f0.toNat 1).map (fun s => Sz.cnt q.f2 (Sz.key s)) = cntsZ q.f2 (rowsZ q.f2 q.f1.toNat q.f0.toNat 1) := List.map_congr_left fun s _ => cnt_is _ _ _
    rw [he]
    exact Ev.now _
  · rw [if_neg h, if_neg h]
    exact Ev.now _
theorem rowsZ_len (l : List Sl) (H : Nat) : ∀ d w, (rowsZ l H d w).length ≤ d * H
  | 0, _ => Nat.zero_le _
  | d + 1, w => by
    have h1 := rowsZ_len l H d (w + 1)
    have h2 := rowZ_len l w H 1
    rw [rowsZ, List.length_append, Nat.succ_mul]
    omega
theorem sizesR_len (q : Sq) : (sizesR q).1.length ≤ 144 ∧ (sizesR q).2.1.length ≤ 144 := by
  unfold sizesR
  by_cases h : sqB q = true
  · rw [if_pos h]
    obtain ⟨w, v, -⟩ := sqB_edges h
    have h1 := rowsZ_len q.f2 q.f1.toNat q.f0.toNat 1
    have h2 : q.f0.toNat * q.f1.toNat ≤ 12 * 12 := Nat.mul_le_mul (show q.f0.toNat ≤ 12 by omega) (show q.f1.toNat ≤ 12 by omega)
    refine ⟨by show (rowsZ _ _ _ _).length ≤ 144; omega, ?_⟩
    show (cntsZ _ _).length ≤ 144
    unfold cntsZ
    rw [List.length_map]
    omega
  · rw [if_neg h]
    exact ⟨Nat.zero_le _, Nat.zero_le _⟩
theorem pure_FnExactSizesIn : Pure.FnExactSizesIn := by
  intro x hx
  have hml := hx.2.2.1
  unfold maxLen at hml
  refine Ev.rounds (g := fun k => laws_FnExactSizesIn.f k x.f0 x.f1 x.f2) ?_
  unfold laws_FnExactSizesIn.f
  refine Ev.call (szSq x hml) ?_
  by_cases h : (1048576 : Int) < x.f2.length
  · rw [if_pos h]
    exact Ev.ite_pos (by decide) (Ev.now _)
  · rw [if_neg h]
    have hq := sq_small hx (by omega)
    have hl2 : (sqOf x).f2.length ≤ 1048576 := hq.2.2.1
    have hS := specSizes (sqOf x) hq
    have hI := implSizes (sqOf x) hq
    obtain ⟨hl3, hl4⟩ := sizesR_len (sqOf x)
    generalize sizesR (sqOf x) = R at *
    have hne : (R.2.2 != R.2.2) = false := by simp
    refine Ev.ite_neg (by omega) (Ev.bind (toSq x (by omega)) (Ev.bind hS (Ev.bind (toSq x (by omega)) (Ev.bind hI (Ev.bind (eqSlabs R.1 (by omega)) (Ev.ite_pos rfl (Ev.bind (eqInts R.2.1 (by omega)) (Ev.ite_pos rfl ?_))))))))
    rw [hne]
    refine Ev.step (fun k => laws_FnExactSizesIn.j0.eq_2 _ _ _ _ _ _ _ _ _ _ _ _ _ _) (Ev.ite_neg (by decide) (Ev.bind (toSq x (by omega)) (Ev.bind (eqSq (sqOf x) (by omega)) (Ev.ite_pos rfl (Ev.bind (markSq (sqOf x) (by omega)) (Ev.ite_neg (by omega) (Ev.bind (eqSlabs R.1 (by omega)) (Ev.ite_pos rfl (Ev.bind (eqInts R.2.1 (by omega)) (Ev.ite_pos rfl ?_))))))))))
    rw [hne]
    refine Ev.step (fun k => laws_FnExactSizesIn.j1.eq_2 _ _ _ _ _ _ _ _ _ _) (Ev.ite_neg (by decide) (Ev.bind (markSlabs R.1 (by omega)) (Ev.bind (markFrom R.2.1 _ (by omega) (by omega) (by omega)) (Ev.bind (heldSlabs R.1.length (by omega)) (Ev.ite_neg (by omega) (Ev.bind (heldFrom R.2.1.length _ (by omega) (by omega) (by omega)) (Ev.ite_neg (by omega) (Ev.ite_pos rfl (Ev.bind (toSq x (by omega)) (Ev.bind hI (Ev.bind (eqSlabs R.1 (by omega)) (Ev.ite_pos rfl (Ev.bind (eqInts R.2.1 (by omega)) (Ev.ite_pos rfl ?_))))))))))))))
    rw [hne]
    exact Ev.step (fun k => laws_FnExactSizesIn.j2.eq_2 _ _ _ _ _) (Ev.ite_neg (by decide) (Ev.bind (heldSlabs R.1.length (by omega)) (Ev.ite_neg (by omega) (Ev.bind (heldFrom R.2.1.length _ (by omega) (by omega) (by omega)) (Ev.ite_neg (by omega) (Ev.ite_pos rfl (Ev.now _)))))))
end Go.Proofs.Ytbdhmfjeamjfdaa.Q

