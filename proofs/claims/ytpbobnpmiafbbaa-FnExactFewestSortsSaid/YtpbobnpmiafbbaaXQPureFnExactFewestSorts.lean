-- By a program of this session's: of the print's words what this claim needs. Lean checks it.
import Derived.Test.YtpbobnpmiafbbaaXQ0
import Derived.Test.YtpbobnpmiafbbaaXQ1
import Derived.Test.YtpbobnpmiafbbaaXQHSett
import Derived.Test.YtpbobnpmiafbbaaXQ4
import Derived.Test.YtpbobnpmiafbbaaXQ2
import Derived.Test.YtpbobnpmiafbbaaXQ10
import Derived.Test.YtpbobnpmiafbbaaXQ6
import Derived.Test.YtpbobnpmiafbbaaXQ11
import Derived.Test.YtpbobnpmiafbbaaXQ7
import Derived.Test.YtpbobnpmiafbbaaXQ3
import Derived.Test.YtpbobnpmiafbbaaXQHInts
import Derived.Test.YtpbobnpmiafbbaaXQLawFewestSorts
import Derived.Test.YtpbobnpmiafbbaaXQOpn
namespace Go.Proofs.Ytpbobnpmiafbbaa.Q
open Go.RowKit Go.Proofs.YtpbobnpmiafbbaaW.PrintWords Go.Proofs.YtpbobnpmiafbbaaW.PrintLast Go.Proofs.YtpbobnpmiafbbaaW.PrintMore
theorem w64 {x : Int} (h0 : -9223372036854775808 ≤ x) (h1 : x ≤ 9223372036854775807) : wrap64 x = x := by
 unfold wrap64
 omega
theorem w64_succ {i : Nat} (h : i ≤ 4611686018427387904) : wrap64 ((i : Int) + 1) = ((i + 1 : Nat) : Int) := by
 rw [w64 (by omega) (by omega)]
 omega
theorem rd_get {l : List Int} {i : Nat} (h : i < l.length) : rd l (i : Int) = l[i] := by
 unfold rd
 rw [Int.toNat_natCast, List.getD_eq_getElem?_getD, List.getElem?_eq_getElem h]
 rfl
theorem ge0 (i : Nat) : (0 : Int) ≤ (i : Int) := Int.natCast_nonneg i
theorem Ev.ite_pos {α : Type} {c : Prop} [Decidable c] {f g : Nat → Option α} {r : α} (hc : c) (h : Ev f r) : Ev (fun k => if c then f k else g k) r := Ev.congr (fun _ => if_pos hc) h
theorem Ev.ite_neg {α : Type} {c : Prop} [Decidable c] {f g : Nat → Option α} {r : α} (hc : ¬ c) (h : Ev g r) : Ev (fun k => if c then f k else g k) r := Ev.congr (fun _ => if_neg hc) h
theorem Ev.call {α β : Type} {o : Option α} {f : Nat → α → Option β} {a : α} {r : β} (h : o = some a) (k : Ev (fun n => f n a) r) : Ev (fun n => o.bind (f n)) r := Ev.bind (g := fun _ => o) ⟨0, fun _ _ => h⟩ k
theorem Ev.eq_ {α : Type} {g : Nat → Option α} {a b : α} (h : Ev g a) (e : a = b) : Ev g b := e ▸ h
def loopV {σ ρ : Type} (c : Nat → σ → Bool) (f : Nat → σ → σ) (e : Nat → σ → ρ) (z : σ → ρ) : Nat → Nat → σ → ρ
 | 0, _, s => z s
 | d + 1, i, s => if c i s = true then loopV c f e z d (i + 1) (f i s) else e i s
theorem Ev.loop {σ ρ : Type} {L : Nat → σ → Nat → Option ρ} (n : Nat) (c : Nat → σ → Bool) (f : Nat → σ → σ) (e : Nat → σ → ρ) (z : σ → ρ) (Inv : Nat → σ → Prop)
  (hgo : ∀ i s, i < n → Inv i s → c i s = true → Inv (i + 1) (f i s) ∧ ∀ r, Ev (fun k => L k (f i s) (i + 1)) r → Ev (fun k => L k s i) r)
  (hout : ∀ i s, i < n → Inv i s → c i s = false → Ev (fun k => L k s i) (e i s))
  (hend : ∀ s, Inv n s → Ev (fun k => L k s n) (z s)) :
  ∀ d i s, i + d = n → Inv i s → Ev (fun k => L k s i) (loopV c f e z d i s) := by
 intro d
 induction d with
 | zero =>
  intro i s hi hs
  obtain rfl : i = n := by omega
  exact hend s hs
 | succ d ih =>
  intro i s hi hs
  unfold loopV
  by_cases hc : c i s = true
  ·
   rw [if_pos hc]
   obtain ⟨h1, h2⟩ := hgo i s (by omega) hs hc
   exact h2 _ (ih (i + 1) (f i s) (by omega) h1)
  ·
   rw [if_neg hc]
   exact hout i s (by omega) hs (by simpa using hc)
theorem loopV_const {σ ρ : Type} {c : Nat → σ → Bool} {f : Nat → σ → σ} {e : Nat → σ → ρ} {z : σ → ρ} {r : ρ} (hc : ∀ i s, c i s = true) (hz : ∀ s, z s = r) : ∀ d i s, loopV c f e z d i s = r
 | 0, _, s => hz s
 | d + 1, i, s => by
  unfold loopV
  rw [if_pos (hc i s)]
  exact loopV_const hc hz d (i + 1) (f i s)
theorem Ev.run {σ ρ : Type} {L : Nat → σ → Nat → Option ρ} (n : Nat) (f : Nat → σ → σ) (Inv : Nat → σ → Prop) (r : ρ)
  (hgo : ∀ i s, i < n → Inv i s → Inv (i + 1) (f i s) ∧ ∀ r, Ev (fun k => L k (f i s) (i + 1)) r → Ev (fun k => L k s i) r)
  (hend : ∀ s, Inv n s → Ev (fun k => L k s n) r) {d i : Nat} {s : σ} (hi : i + d = n) (hs : Inv i s) : Ev (fun k => L k s i) r := by
 have h := Ev.loop (L := L) n (fun _ _ => true) f (fun _ _ => r) (fun _ => r) Inv (fun i s hi hs _ => hgo i s hi hs) (fun _ _ _ _ h => by cases h) hend d i s hi hs
 rwa [loopV_const (fun _ _ => rfl) (fun _ => rfl)] at h
theorem Ev.all {α ρ : Type} {L : Nat → Nat → Option ρ} (l : List α) (p : α → Bool) (re rf : ρ)
  (hgo : ∀ i (h : i < l.length), p l[i] = true → ∀ r, Ev (fun k => L k (i + 1)) r → Ev (fun k => L k i) r)
  (hout : ∀ i (h : i < l.length), p l[i] = false → Ev (fun k => L k i) rf)
  (hend : Ev (fun k => L k l.length) re) : Ev (fun k => L k 0) (if l.all p = true then re else rf) := by
 have key : ∀ d i, i + d = l.length → Ev (fun k => L k i) (if (l.drop i).all p = true then re else rf) := by
  intro d
  induction d with
  | zero =>
   intro i hi
   obtain rfl : i = l.length := by omega
   simpa using hend
  | succ d ih =>
   intro i hi
   have hlt : i < l.length := by omega
   rw [List.drop_eq_getElem_cons hlt, List.all_cons]
   by_cases hp : p l[i] = true
   ·
    rw [hp, Bool.true_and]
    exact hgo i hlt hp _ (ih (i + 1) (by omega))
   ·
    have hp' : p l[i] = false := by simpa using hp
    rw [hp', Bool.false_and, if_neg (by decide)]
    exact hout i hlt hp'
 have h := key l.length 0 (by omega)
 simpa using h
theorem Ev.if_ {α : Type} {g : Nat → Option α} {c : Prop} [Decidable c] {a b : α} (h1 : c → Ev g a) (h2 : ¬ c → Ev g b) : Ev g (if c then a else b) := by
 by_cases h : c
 · rw [if_pos h]; exact h1 h
 · rw [if_neg h]; exact h2 h
theorem take_set_succ {α : Type} {s l : List α} {i : Nat} (hl : s.length = l.length) (hi : i < l.length) (ht : s.take i = l.take i) : (s.set i l[i]).take (i + 1) = l.take (i + 1) := by
 rw [List.take_succ_eq_append_getElem (by simpa [hl] using hi), List.take_succ_eq_append_getElem hi, List.take_set_of_le (Nat.le_refl _), ht]
 simp
def findFrom {α : Type} (p : α → Bool) : Nat → List α → Int
 | _, [] => -1
 | i, x :: xs => if p x = true then (i : Int) else findFrom p (i + 1) xs
theorem findFrom_ge {α : Type} (p : α → Bool) : ∀ (l : List α) (i : Nat), decide (findFrom p i l ≥ 0) = l.any p
 | [], i => by simp [findFrom]
 | x :: xs, i => by
  unfold findFrom
  by_cases hp : p x = true
  · simp [hp]
  · simp [hp, findFrom_ge p xs (i + 1)]
theorem any_not {α : Type} (l : List α) (p : α → Bool) : l.any (fun x => !p x) = !l.all p := by
 induction l with
 | nil => rfl
 | cons x xs ih => rw [List.any_cons, List.all_cons, ih, Bool.not_and]
theorem Ev.find {α : Type} {L : Nat → Nat → Option Int} (l : List α) (p : α → Bool)
  (hgo : ∀ i (h : i < l.length), p l[i] = false → ∀ r, Ev (fun k => L k (i + 1)) r → Ev (fun k => L k i) r)
  (hout : ∀ i (h : i < l.length), p l[i] = true → Ev (fun k => L k i) (i : Int))
  (hend : Ev (fun k => L k l.length) (-1)) : Ev (fun k => L k 0) (findFrom p 0 l) := by
 have key : ∀ d i, i + d = l.length → Ev (fun k => L k i) (findFrom p i (l.drop i)) := by
  intro d
  induction d with
  | zero =>
   intro i hi
   obtain rfl : i = l.length := by omega
   simpa [findFrom] using hend
  | succ d ih =>
   intro i hi
   have hlt : i < l.length := by omega
   rw [List.drop_eq_getElem_cons hlt]
   unfold findFrom
   by_cases hp : p l[i] = true
   ·
    rw [if_pos hp]
    exact hout i hlt hp
   ·
    have hp' : p l[i] = false := by simpa using hp
    rw [if_neg hp]
    exact hgo i hlt hp' _ (ih (i + 1) (by omega))
 simpa using key l.length 0 (by omega)
end Go.Proofs.Ytpbobnpmiafbbaa.Q

namespace Go.Proofs.Ytpbobnpmiafbbaa.Q
open Go.RowKit Go.Proofs.YtpbobnpmiafbbaaW.PrintWords Go.Proofs.YtpbobnpmiafbbaaW.PrintLast Go.Proofs.YtpbobnpmiafbbaaW.PrintMore
def inB (a b c : Int) : Bool := decide (b ≤ a ∧ a ≤ c)
theorem within_val (a b c : Int) : impl_within.f a b c = some (inB a b c) := by
 unfold impl_within.f inB
 by_cases h : b ≤ a <;> simp [h]
theorem l00In_val (a b c : Int) : spec_l00In.f a b c = some (inB a b c) := by
 unfold spec_l00In.f inB
 by_cases h : b ≤ a <;> simp [h]
theorem inB_iff {a b c : Int} : inB a b c = true ↔ b ≤ a ∧ a ≤ c := by simp [inB]
end Go.Proofs.Ytpbobnpmiafbbaa.Q

namespace Go.Proofs.Ytpbobnpmiafbbaa.Q
open Go.RowKit Go.Proofs.YtpbobnpmiafbbaaW.PrintWords Go.Proofs.YtpbobnpmiafbbaaW.PrintLast Go.Proofs.YtpbobnpmiafbbaaW.PrintMore
set_option linter.unusedSimpArgs false
def settOf (x : S70) : S68 := ⟨x.f0, x.f1⟩
theorem rdLT_get {l : List S70} {i : Nat} (h : i < l.length) : rd_T70 l (i : Int) = l[i] := by
 unfold rd_T70
 rw [Int.toNat_natCast, List.getD_eq_getElem?_getD, List.getElem?_eq_getElem h]
 rfl
theorem rdIT_get {l : List S68} {i : Nat} (h : i < l.length) : rd_T68 l (i : Int) = l[i] := by
 unfold rd_T68
 rw [Int.toNat_natCast, List.getD_eq_getElem?_getD, List.getElem?_eq_getElem h]
 rfl
theorem toSetts (l : List S70) (h : l.length ≤ 35184372088832) : Ev (fun k => laws_toSettS.f k l) (l.map settOf) := by
 unfold laws_toSettS.f
 refine Ev.ite_pos (ge0 _) (Ev.ite_pos (by rw [Int.toNat_natCast]; omega) ?_)
 refine Ev.run (L := fun k s (i : Nat) => laws_toSettS.l0 k l s i) l.length (fun i s => s.set i (settOf (rd_T70 l (i : Int)))) (fun i s => s.length = l.length ∧ s.take i = (l.map settOf).take i) (l.map settOf) ?_ ?_ (d := l.length) (i := 0) (by omega) ⟨by simp, by simp⟩
 ·
  rintro i s hi ⟨h1, h2⟩
  refine ⟨⟨by simpa using h1, ?_⟩, fun r hr => Ev.step (fun k => laws_toSettS.l0.eq_2 _ _ _ _) ?_⟩
  ·
   show (s.set i (settOf (rd_T70 l (i : Int)))).take (i + 1) = _
   rw [rdLT_get hi, show settOf l[i] = (l.map settOf)[i]'(by simpa using hi) by simp]
   exact take_set_succ (by simpa using h1) (by simpa using hi) h2
  ·
   refine Ev.ite_pos (by omega) (Ev.ite_pos (ge0 _) (Ev.call rfl (Ev.ite_pos (by omega) ?_)))
   rw [w64_succ (by omega), Int.toNat_natCast]
   exact hr
 ·
  rintro s ⟨h1, h2⟩
  refine Ev.step (fun k => laws_toSettS.l0.eq_2 _ _ _ _) (Ev.ite_neg (by omega) ?_)
  rw [List.take_of_length_le (by omega), List.take_of_length_le (by simp)] at h2
  rw [h2]
  exact Ev.now _
theorem eqSett_refl (a b : Int) : laws_eqSett.f a b a b = some true := by simp [laws_eqSett.f]
theorem eqSetts (l : List S68) (h : l.length ≤ 4611686018427387904) : Ev (fun k => laws_eqSettS.f k l l) true := by
 unfold laws_eqSettS.f
 refine Ev.ite_pos rfl ?_
 refine Ev.run (L := fun k (_ : Unit) (i : Nat) => laws_eqSettS.l0 k l l i) l.length (fun _ s => s) (fun _ _ => True) true ?_ ?_ (d := l.length) (i := 0) (s := ()) (by omega) trivial
 ·
  rintro i s hi _
  refine ⟨trivial, fun r hr => Ev.step (fun k => laws_eqSettS.l0.eq_2 _ _ _ _) ?_⟩
  refine Ev.ite_pos (by omega) (Ev.ite_pos (ge0 _) (Ev.ite_pos (by omega) (Ev.call (eqSett_refl _ _) (Ev.ite_pos rfl ?_))))
  rw [w64_succ (by omega)]
  exact hr
 ·
  intro s _
  exact Ev.step (fun k => laws_eqSettS.l0.eq_2 _ _ _ _) (Ev.ite_neg (by omega) (Ev.now true))
theorem szSetts (l : List S70) (n : Int) (h : l.length ≤ 9223372036854775807) (h0 : 0 ≤ n) (h1 : n ≤ 1048576) : laws_szSettS.f l n = some (if n < l.length then -1 else n - l.length) := by
 unfold laws_szSettS.f
 rw [w64 (by omega) (by omega)]
 by_cases hc : n < l.length
 · rw [if_pos (by omega), if_pos hc]
 · rw [if_neg (by omega), if_neg hc]
def settC (l : List S68) (i : Nat) : Bool := inB (wrap64 (rd_T68 l i).f0) 1 20 && inB (wrap64 (rd_T68 l i).f1) 0 60 && (decide (i = 0) || !decide ((rd_T68 l i).f0 ≤ (rd_T68 l ((i : Int) - 1)).f0))
def settsB (l : List S68) : Bool := loopV (fun i (_ : Unit) => settC l i) (fun _ s => s) (fun _ _ => false) (fun _ => inB l.length 1 6) l.length 0 ()
theorem specSetts (l : List S68) (h : l.length ≤ 1048576) : Ev (fun k => spec_l03Ok.f k l) (settsB l) := by
 unfold spec_l03Ok.f settsB
 refine Ev.loop (L := fun k (_ : Unit) (i : Nat) => spec_l03Ok.l0 k l i) l.length _ _ _ _ (fun _ _ => True) ?_ ?_ ?_ l.length 0 () (by omega) trivial
 ·
  rintro i s hi _ hc
  refine ⟨trivial, fun r hr => Ev.step (fun k => spec_l03Ok.l0.eq_2 _ _ _) ?_⟩
  unfold settC at hc
  rw [Bool.and_eq_true, Bool.and_eq_true, Bool.or_eq_true, decide_eq_true_eq] at hc
  obtain ⟨⟨h1, h2⟩, h3⟩ := hc
  rw [w64_succ (by omega)]
  refine Ev.ite_pos (by omega) (Ev.ite_pos (ge0 _) (Ev.call (l00In_val _ _ _) (Ev.ite_pos h1 (Ev.call (l00In_val _ _ _) (Ev.ite_pos h2 ?_)))))
  by_cases h0 : (i : Int) > 0
  ·
   rw [w64 (x := (i : Int) - 1) (by omega) (by omega)]
   refine Ev.ite_pos h0 (Ev.ite_pos (by omega) (Ev.ite_pos (by omega) (Ev.ite_neg ?_ hr)))
   rcases h3 with h3 | h3
   · omega
   · simpa using h3
  · exact Ev.ite_neg h0 hr
 ·
  rintro i s hi _ hc
  refine Ev.step (fun k => spec_l03Ok.l0.eq_2 _ _ _) ?_
  unfold settC at hc
  refine Ev.ite_pos (by omega) (Ev.ite_pos (ge0 _) (Ev.call (l00In_val _ _ _) ?_))
  by_cases h1 : inB (wrap64 (rd_T68 l i).f0) 1 20 = true
  ·
   refine Ev.ite_pos h1 (Ev.call (l00In_val _ _ _) ?_)
   by_cases h2 : inB (wrap64 (rd_T68 l i).f1) 0 60 = true
   ·
    rw [h1, h2, Bool.true_and, Bool.true_and, Bool.or_eq_false_iff, decide_eq_false_iff_not, Bool.not_eq_false', decide_eq_true_eq] at hc
    rw [w64 (x := (i : Int) - 1) (by omega) (by omega)]
    exact Ev.ite_pos h2 (Ev.ite_pos (by omega) (Ev.ite_pos (by omega) (Ev.ite_pos (by omega) (Ev.ite_pos hc.2 (Ev.now _)))))
   · exact Ev.ite_neg h2 (Ev.now _)
  · exact Ev.ite_neg h1 (Ev.now _)
 ·
  intro s _
  exact Ev.step (fun k => spec_l03Ok.l0.eq_2 _ _ _) (Ev.ite_neg (by omega) (Ev.call (l00In_val _ _ _) (Ev.now _)))
theorem implSetts (l : List S68) (h : l.length ≤ 1048576) : Ev (fun k => impl_ValidSetts.f k l) (settsB l) := by
 unfold impl_ValidSetts.f settsB
 refine Ev.loop (L := fun k (_ : Unit) (i : Nat) => impl_ValidSetts.l0 k l l l.length i) l.length _ _ _ _ (fun _ _ => True) ?_ ?_ ?_ l.length 0 () (by omega) trivial
 ·
  rintro i s hi _ hc
  refine ⟨trivial, fun r hr => Ev.step (fun k => impl_ValidSetts.l0.eq_2 _ _ _ _ _) ?_⟩
  unfold settC at hc
  rw [Bool.and_eq_true, Bool.and_eq_true, Bool.or_eq_true, decide_eq_true_eq] at hc
  obtain ⟨⟨h1, h2⟩, h3⟩ := hc
  rw [w64_succ (by omega)]
  refine Ev.ite_pos (by omega) (Ev.ite_pos (ge0 _) (Ev.ite_pos (by omega) (Ev.call (within_val _ _ _) (Ev.ite_pos h1 (Ev.call (within_val _ _ _) (Ev.ite_pos h2 ?_))))))
  by_cases h0 : (i : Int) > 0
  ·
   rw [w64 (x := (i : Int) - 1) (by omega) (by omega)]
   refine Ev.ite_pos h0 (Ev.ite_pos (by omega) (Ev.ite_pos (by omega) (Ev.ite_neg ?_ hr)))
   rcases h3 with h3 | h3
   · omega
   · simpa using h3
  · exact Ev.ite_neg h0 hr
 ·
  rintro i s hi _ hc
  refine Ev.step (fun k => impl_ValidSetts.l0.eq_2 _ _ _ _ _) ?_
  unfold settC at hc
  refine Ev.ite_pos (by omega) (Ev.ite_pos (ge0 _) (Ev.ite_pos (by omega) (Ev.call (within_val _ _ _) ?_)))
  by_cases h1 : inB (wrap64 (rd_T68 l i).f0) 1 20 = true
  ·
   refine Ev.ite_pos h1 (Ev.call (within_val _ _ _) ?_)
   by_cases h2 : inB (wrap64 (rd_T68 l i).f1) 0 60 = true
   ·
    rw [h1, h2, Bool.true_and, Bool.true_and, Bool.or_eq_false_iff, decide_eq_false_iff_not, Bool.not_eq_false', decide_eq_true_eq] at hc
    rw [w64 (x := (i : Int) - 1) (by omega) (by omega)]
    exact Ev.ite_pos h2 (Ev.ite_pos (by omega) (Ev.ite_pos (by omega) (Ev.ite_pos (by omega) (Ev.ite_pos hc.2 (Ev.now _)))))
   · exact Ev.ite_neg h2 (Ev.now _)
  · exact Ev.ite_neg h1 (Ev.now _)
 ·
  intro s _
  exact Ev.step (fun k => impl_ValidSetts.l0.eq_2 _ _ _ _ _) (Ev.ite_neg (by omega) (Ev.call (a := (l.length : Int)) rfl (Ev.call (within_val _ _ _) (Ev.now _))))
end Go.Proofs.Ytpbobnpmiafbbaa.Q

namespace Go.Proofs.Ytpbobnpmiafbbaa.Q
open Go.RowKit Go.Proofs.YtpbobnpmiafbbaaW.PrintWords Go.Proofs.YtpbobnpmiafbbaaW.PrintLast Go.Proofs.YtpbobnpmiafbbaaW.PrintMore
set_option linter.unusedVariables false
set_option linter.unusedSimpArgs false
abbrev Fl := S108
def zFl : Fl := z108
def rdF (l : List Fl) (i : Int) : Fl := rd_T108 l i
theorem rdF_get {l : List Fl} {i : Nat} (h : i < l.length) : rdF l (i : Int) = l[i] := by
 unfold rdF rd_T108
 rw [Int.toNat_natCast, List.getD_eq_getElem?_getD, List.getElem?_eq_getElem h]
 rfl
def stepK (below : List Fl) (p k : Nat) (own : Fl) : Fl :=
 if (rdF below (p : Int)).f0 = 0 then own
 else if own.f0 = 0 ∨ wrap64 ((rdF below (p : Int)).f1 + k) < own.f1 then ⟨wrap64 (own.f0 + (rdF below (p : Int)).f0), wrap64 ((rdF below (p : Int)).f1 + k)⟩
 else ⟨wrap64 (own.f0 + (rdF below (p : Int)).f0), own.f1⟩
def foldK (below : List Fl) (w at_ : Nat) : Nat → Fl
 | 0 => zFl
 | k + 1 => if k * w ≤ at_ then stepK below (at_ - k * w) k (foldK below w at_ k) else foldK below w at_ k
theorem foldK_stop (below : List Fl) {w at_ k : Nat} (h : at_ < k * w) : ∀ d, foldK below w at_ (k + d) = foldK below w at_ k
 | 0 => rfl
 | d + 1 => by
  have h2 : k * w ≤ (k + d) * w := Nat.mul_le_mul_right _ (by omega)
  show (if (k + d) * w ≤ at_ then _ else foldK below w at_ (k + d)) = _
  rw [if_neg (by omega)]
  exact foldK_stop below h d
def rowK (below : List Fl) (w c L : Nat) : List Fl := (List.range (L + 1)).map fun at_ => foldK below w at_ (c + 1)
def baseK (L : Nat) : List Fl := (List.replicate (L + 1) zFl).set 0 ⟨1, 0⟩
def rowsK (L : Nat) : List (Nat × Nat) → List (List Fl)
 | [] => [baseK L]
 | (w, c) :: t => rowK ((rowsK L t).headD []) w c L :: rowsK L t
theorem rowsK_len (L : Nat) : ∀ ws, (rowsK L ws).length = ws.length + 1
 | [] => rfl
 | (w, c) :: t => by simp [rowsK, rowsK_len L t]
theorem rowsK_head (L : Nat) : ∀ ws, ((rowsK L ws).headD []).length = L + 1
 | [] => by simp [rowsK, baseK]
 | (w, c) :: t => by simp [rowsK, rowK]
def partK (below : List Fl) (w c L n : Nat) : List Fl := (List.range (L + 1)).map fun j => if j < n then foldK below w j (c + 1) else zFl
theorem partK_len (below : List Fl) (w c L n : Nat) : (partK below w c L n).length = L + 1 := by simp [partK]
theorem partK_zero (below : List Fl) (w c L : Nat) : partK below w c L 0 = List.replicate (L + 1) zFl := by
 apply List.ext_getElem <;> simp [partK]
theorem partK_full (below : List Fl) (w c L : Nat) : partK below w c L (L + 1) = rowK below w c L := by
 apply List.ext_getElem
 · simp [partK, rowK]
 ·
  intro i h1 h2
  simp [partK] at h1
  simp [partK, rowK]
  omega
theorem partK_succ (below : List Fl) (w c L n : Nat) (hn : n < L + 1) : (partK below w c L n).set n (foldK below w n (c + 1)) = partK below w c L (n + 1) := by
 apply List.ext_getElem
 · simp [partK]
 ·
  intro i h1 h2
  rw [List.getElem_set]
  simp only [partK, List.getElem_map, List.getElem_range]
  by_cases h : n = i
  ·
   subst h
   simp
  ·
   rw [if_neg h]
   by_cases h3 : i < n
   · rw [if_pos h3, if_pos (by omega)]
   · rw [if_neg h3, if_neg (by omega)]
theorem partK_same (below : List Fl) (w c L n : Nat) (hn : n < L + 1) : (partK below w c L n).set n (foldK below w n 0) = partK below w c L n := by
 apply List.ext_getElem
 · simp
 ·
  intro i h1 h2
  rw [List.getElem_set]
  by_cases h : n = i
  ·
   subst h
   simp [partK, foldK]
  · rw [if_neg h]
def wOf (a2 : Int) (s : S68) : Nat × Nat := ((wrap64 s.f0 + a2).toNat, (wrap64 s.f1).toNat)
def rdR (l : List (List Fl)) (i : Int) : List Fl := rd_L9 l i
theorem rdR_app (pre : List (List Fl)) (x : List Fl) (t : List (List Fl)) : rdR (pre ++ x :: t) (pre.length : Int) = x := by
 unfold rdR rd_L9
 rw [Int.toNat_natCast]
 simp
theorem rdR_app1 (pre : List (List Fl)) (x y : List Fl) (t : List (List Fl)) : rdR (pre ++ x :: y :: t) ((pre.length + 1 : Nat) : Int) = y := by
 unfold rdR rd_L9
 rw [Int.toNat_natCast]
 simp [List.getD_eq_getElem?_getD, List.getElem?_append_right]
theorem set_app (pre : List (List Fl)) (x y : List Fl) (t : List (List Fl)) : (pre ++ x :: t).set pre.length y = pre ++ y :: t := by
 rw [List.set_append]
 simp
theorem getElem_rdF {l : List Fl} {i : Nat} (h : i < l.length) (x : Fl) : rdF (l.set i x) (i : Int) = x := by
 rw [rdF_get (by simpa using h)]
 simp
theorem partK_at (below : List Fl) (w c L n : Nat) (hn : n < L + 1) (x : Fl) : rdF ((partK below w c L n).set n x) (n : Int) = x := getElem_rdF (by rw [partK_len]; exact hn) x
def goodS (a2 : Int) (s : S68) (w c : Nat) : Prop := wrap64 (wrap64 s.f0 + a2) = (w : Int) ∧ wrap64 s.f1 = (c : Int) ∧ 1 ≤ w ∧ w ≤ 1000 ∧ c ≤ 1000
theorem fill2 (l : List S68) (L a2 : Int) (below : List Fl) (t : List (List Fl)) (pre : List (List Fl)) (w c N at_ : Nat) (r : List (List Fl)) (hN : N ≤ 100000) (hl : l.length ≤ 1000) (hi : pre.length < l.length) (hg : goodS a2 (rd_T68 l (pre.length : Int)) w c) (hb : below.length = N + 1) (hat : at_ < N + 1)
  (hend : Ev (fun k => impl_fillings.l1 k l L a2 (pre ++ partK below w c N (at_ + 1) :: below :: t) (pre.length : Int) (w : Int) ((N + 1 : Nat) : Int) ((at_ + 1 : Nat) : Int)) r) :
  ∀ d k, k + d = c + 1 → Ev (fun n => impl_fillings.l2 n l L a2 (pre ++ (partK below w c N at_).set at_ (foldK below w at_ k) :: below :: t) (pre.length : Int) (w : Int) (at_ : Int) (k : Int) ((N + 1 : Nat) : Int) (at_ : Int)) r := by
 obtain ⟨g1, g2, g3, g4, g5⟩ := hg
 have stop : ∀ k, k ≤ c + 1 → foldK below w at_ k = foldK below w at_ (c + 1) → Ev (fun n => impl_fillings.l1 n l L a2 (pre ++ (partK below w c N at_).set at_ (foldK below w at_ k) :: below :: t) (pre.length : Int) (w : Int) ((N + 1 : Nat) : Int) (wrap64 ((at_ : Int) + 1))) r := by
  intro k hk e
  rw [e, partK_succ below w c N at_ hat, w64_succ (by omega)]
  exact hend
 intro d
 induction d with
 | zero =>
  intro k hk
  obtain rfl : k = c + 1 := by omega
  refine Ev.step (fun n => impl_fillings.l2.eq_2 _ _ _ _ _ _ _ _ _ _ _) ?_
  rw [g2]
  exact Ev.ite_pos (by omega) (Ev.ite_pos (by omega) (Ev.ite_neg (by omega) (stop _ (by omega) rfl)))
 | succ d ih =>
  intro k hk
  refine Ev.step (fun n => impl_fillings.l2.eq_2 _ _ _ _ _ _ _ _ _ _ _) ?_
  obtain ⟨m, hm⟩ : ∃ m : Nat, m = k * w := ⟨_, rfl⟩
  have hmb : m ≤ 1000000 := by
   have h1 : k * w ≤ 1000 * 1000 := Nat.mul_le_mul (by omega) g4
   rw [hm]
   exact Nat.le_trans h1 (by decide)
  have e1 : wrap64 ((k : Int) * (w : Int)) = (m : Int) := by
   have h2 : (k : Int) * (w : Int) = (m : Int) := by rw [hm]; simp
   rw [h2]
   clear h2 hm
   exact w64 (by omega) (by omega)
  have hst : at_ < m → foldK below w at_ k = foldK below w at_ (c + 1) := by
   intro h3
   have h4 := foldK_stop below (w := w) (at_ := at_) (k := k) (by rw [← hm]; exact h3) (c + 1 - k)
   clear hm e1
   rw [show k + (c + 1 - k) = c + 1 by omega] at h4
   exact h4.symm
  have hfo : m ≤ at_ → foldK below w at_ (k + 1) = stepK below (at_ - m) k (foldK below w at_ k) := by
   intro h3
   rw [foldK, ← hm, if_pos h3]
  rw [g2, e1]
  clear e1 hm
  refine Ev.ite_pos (by omega) (Ev.ite_pos (by omega) (Ev.ite_pos (by omega) ?_))
  by_cases hkat : m ≤ at_
  ·
   have ih' := ih (k + 1) (by omega)
   have ef := hfo hkat
   rw [w64_succ (i := pre.length) (by omega), w64 (x := (at_ : Int) - (m : Int)) (by omega) (by omega), show (at_ : Int) - (m : Int) = ((at_ - m : Nat) : Int) by omega]
   have eb : rd_L9 (pre ++ (partK below w c N at_).set at_ (foldK below w at_ k) :: below :: t) ((pre.length + 1 : Nat) : Int) = below := rdR_app1 _ _ _ _
   have eo : rd_L9 (pre ++ (partK below w c N at_).set at_ (foldK below w at_ k) :: below :: t) (pre.length : Int) = (partK below w c N at_).set at_ (foldK below w at_ k) := rdR_app _ _ _
   have eq_ : rd_T108 ((partK below w c N at_).set at_ (foldK below w at_ k)) (at_ : Int) = foldK below w at_ k := partK_at below w c N at_ hat _
   rw [eb, eo, eq_, w64_succ (i := k) (by omega)]
   refine Ev.ite_pos (by omega) (Ev.ite_pos (by omega) (Ev.ite_pos (by simp only [List.length_append, List.length_cons]; omega) (Ev.ite_pos (by omega) (Ev.ite_pos (by omega) ?_))))
   by_cases h0 : (rdF below ((at_ - m : Nat) : Int)).f0 = 0
   ·
    refine Ev.ite_pos h0 ?_
    rw [ef, show stepK below (at_ - m) k (foldK below w at_ k) = foldK below w at_ k from if_pos h0] at ih'
    exact ih'
   ·
    have hpl : (partK below w c N at_).length = N + 1 := partK_len _ _ _ _ _
    refine Ev.ite_neg h0 (Ev.ite_pos (by simp only [List.length_append, List.length_cons]; omega) (Ev.ite_pos (by omega) (Ev.ite_pos (by rw [List.length_set, hpl]; omega) ?_)))
    have two : ∀ v1 v2 : Fl, ((pre ++ (partK below w c N at_).set at_ v1 :: below :: t).set pre.length (((partK below w c N at_).set at_ v1).set at_ v2)) = pre ++ (partK below w c N at_).set at_ v2 :: below :: t := by
     intro v1 v2
     rw [set_app, List.set_set]
    simp only [Int.toNat_natCast]
    have wr : ∀ f1 : Int, Ev (fun n => impl_fillings.l2 n l L a2 (pre ++ (partK below w c N at_).set at_ ⟨wrap64 ((foldK below w at_ k).f0 + (rdF below ((at_ - m : Nat) : Int)).f0), f1⟩ :: below :: t) (pre.length : Int) (w : Int) (at_ : Int) ((k + 1 : Nat) : Int) ((N + 1 : Nat) : Int) (at_ : Int)) r →
      Ev (fun n => (some ((pre ++ (partK below w c N at_).set at_ (foldK below w at_ k) :: below :: t).set pre.length (((partK below w c N at_).set at_ (foldK below w at_ k)).set at_ (⟨(foldK below w at_ k).f0, f1⟩ : Fl)))).bind fun y => if (at_ : Int) < ((rd_L9 y (pre.length : Int)).length : Int) then impl_fillings.l2 n l L a2 (y.set pre.length ((rd_L9 y (pre.length : Int)).set at_ (⟨wrap64 ((rd_T108 (rd_L9 y (pre.length : Int)) (at_ : Int)).f0 + (rd_T108 below ((at_ - m : Nat) : Int)).f0), (rd_T108 (rd_L9 y (pre.length : Int)) (at_ : Int)).f1⟩ : Fl))) (pre.length : Int) (w : Int) (at_ : Int) ((k + 1 : Nat) : Int) ((N + 1 : Nat) : Int) (at_ : Int) else none) r := by
     intro f1 h
     refine Ev.call (a := pre ++ (partK below w c N at_).set at_ (⟨(foldK below w at_ k).f0, f1⟩ : Fl) :: below :: t) (by rw [two]) ?_
     have eo2 : rd_L9 (pre ++ (partK below w c N at_).set at_ (⟨(foldK below w at_ k).f0, f1⟩ : Fl) :: below :: t) (pre.length : Int) = (partK below w c N at_).set at_ (⟨(foldK below w at_ k).f0, f1⟩ : Fl) := rdR_app _ _ _
     have eq2 : rd_T108 ((partK below w c N at_).set at_ (⟨(foldK below w at_ k).f0, f1⟩ : Fl)) (at_ : Int) = ⟨(foldK below w at_ k).f0, f1⟩ := partK_at below w c N at_ hat _
     rw [eo2, eq2, two]
     exact Ev.ite_pos (by rw [List.length_set, hpl]; omega) h
    by_cases h1 : (foldK below w at_ k).f0 = 0
    ·
     rw [ef, show stepK below (at_ - m) k (foldK below w at_ k) = ⟨wrap64 ((foldK below w at_ k).f0 + (rdF below ((at_ - m : Nat) : Int)).f0), wrap64 ((rdF below ((at_ - m : Nat) : Int)).f1 + k)⟩ by unfold stepK; rw [if_neg h0, if_pos (Or.inl h1)]] at ih'
     exact Ev.ite_pos h1 (wr _ ih')
    ·
     refine Ev.ite_neg h1 ?_
     by_cases h2 : wrap64 ((rdF below ((at_ - m : Nat) : Int)).f1 + k) < (foldK below w at_ k).f1
     ·
      rw [ef, show stepK below (at_ - m) k (foldK below w at_ k) = ⟨wrap64 ((foldK below w at_ k).f0 + (rdF below ((at_ - m : Nat) : Int)).f0), wrap64 ((rdF below ((at_ - m : Nat) : Int)).f1 + k)⟩ by unfold stepK; rw [if_neg h0, if_pos (Or.inr h2)]] at ih'
      exact Ev.ite_pos h2 (wr _ ih')
     ·
      rw [ef, show stepK below (at_ - m) k (foldK below w at_ k) = ⟨wrap64 ((foldK below w at_ k).f0 + (rdF below ((at_ - m : Nat) : Int)).f0), (foldK below w at_ k).f1⟩ by unfold stepK; rw [if_neg h0, if_neg (by rintro (h | h); exact h1 h; exact h2 h)]] at ih'
      refine Ev.ite_neg h2 ?_
      rw [two]
      exact ih'
  · exact Ev.ite_neg (by omega) (stop k (by omega) (hst (by omega)))
theorem fill1 (l : List S68) (L a2 : Int) (below : List Fl) (t : List (List Fl)) (pre : List (List Fl)) (w c N : Nat) (r : List (List Fl)) (hN : N ≤ 100000) (hl : l.length ≤ 1000) (hi : pre.length < l.length) (hg : goodS a2 (rd_T68 l (pre.length : Int)) w c) (hb : below.length = N + 1)
  (hend : Ev (fun k => impl_fillings.l0 k l L a2 (pre ++ rowK below w c N :: below :: t) (wrap64 ((pre.length : Int) - 1))) r) :
  ∀ d at_, at_ + d = N + 1 → Ev (fun n => impl_fillings.l1 n l L a2 (pre ++ partK below w c N at_ :: below :: t) (pre.length : Int) (w : Int) ((N + 1 : Nat) : Int) (at_ : Int)) r := by
 intro d
 induction d with
 | zero =>
  intro at_ h
  obtain rfl : at_ = N + 1 := by omega
  refine Ev.step (fun n => impl_fillings.l1.eq_2 _ _ _ _ _ _ _ _ _) (Ev.ite_neg (by omega) ?_)
  rw [partK_full]
  exact hend
 | succ d ih =>
  intro at_ h
  refine Ev.step (fun n => impl_fillings.l1.eq_2 _ _ _ _ _ _ _ _ _) (Ev.ite_pos (by omega) ?_)
  have h2 := fill2 l L a2 below t pre w c N at_ r hN hl hi hg hb (by omega) (ih (at_ + 1) (by omega)) (c + 1) 0 (by omega)
  rw [partK_same below w c N at_ (by omega)] at h2
  exact h2
def goodL (a2 : Int) (l : List S68) (ws : List (Nat × Nat)) : Prop := ws.length = l.length ∧ ∀ i (h : i < ws.length), goodS a2 (rd_T68 l (i : Int)) ws[i].1 ws[i].2
theorem fill0 (l : List S68) (a2 : Int) (ws : List (Nat × Nat)) (N : Nat) (hN : N ≤ 100000) (hl : l.length ≤ 1000) (hg : goodL a2 l ws) :
  ∀ m (pre : List (List Fl)), pre.length = m → m ≤ ws.length → Ev (fun k => impl_fillings.l0 k l (N : Int) a2 (pre ++ rowsK N (ws.drop m)) ((m : Int) - 1)) (rowsK N ws) := by
 intro m
 induction m with
 | zero =>
  intro pre hp _
  obtain rfl : pre = [] := List.eq_nil_of_length_eq_zero hp
  exact Ev.step (fun n => impl_fillings.l0.eq_2 _ _ _ _ _ _) (Ev.ite_neg (by omega) (Ev.now _))
 | succ m ih =>
  intro pre hp hm
  obtain ⟨hw, hgs⟩ := hg
  have hm2 : m < ws.length := by omega
  obtain ⟨pre', x, rfl⟩ : ∃ (p : List (List Fl)) (x : List Fl), pre = p ++ [x] := ⟨pre.dropLast, pre.getLast (by intro h; rw [h] at hp; simp at hp), (List.dropLast_concat_getLast _).symm⟩
  have hp' : pre'.length = m := by simpa using hp
  subst hp'
  have g := hgs pre'.length hm2
  have ed : rowsK N (ws.drop pre'.length) = rowK ((rowsK N (ws.drop (pre'.length + 1))).headD []) ws[pre'.length].1 ws[pre'.length].2 N :: rowsK N (ws.drop (pre'.length + 1)) := by
   rw [List.drop_eq_getElem_cons hm2]
   rfl
  obtain ⟨below, t, et⟩ : ∃ (b : List Fl) (t : List (List Fl)), rowsK N (ws.drop (pre'.length + 1)) = b :: t := by
   cases h : rowsK N (ws.drop (pre'.length + 1)) with
   | nil =>
    have := rowsK_len N (ws.drop (pre'.length + 1))
    rw [h] at this
    simp at this
   | cons b t => exact ⟨b, t, rfl⟩
  have hb : below.length = N + 1 := by
   have := rowsK_head N (ws.drop (pre'.length + 1))
   rw [et] at this
   exact this
  have ih' := ih pre' rfl (by omega)
  rw [ed, et] at ih'
  simp only [List.headD_cons] at ih'
  rw [et, List.append_assoc, List.singleton_append, show ((pre'.length + 1 : Nat) : Int) - 1 = (pre'.length : Int) by omega]
  refine Ev.step (fun n => impl_fillings.l0.eq_2 _ _ _ _ _ _) ?_
  rw [w64_succ (i := N) (by omega), Int.toNat_natCast, Int.toNat_natCast]
  refine Ev.ite_pos (by omega) (Ev.ite_pos (by omega) (Ev.ite_pos (by omega) (Ev.ite_pos (by omega) (Ev.ite_pos (by simp only [List.length_append, List.length_cons]; omega) ?_))))
  refine Ev.call (a := pre' ++ List.replicate (N + 1) zFl :: below :: t) (by rw [set_app]; rfl) (Ev.ite_neg (by omega) (Ev.ite_pos (by omega) ?_))
  have eo : rd_L9 (pre' ++ List.replicate (N + 1) zFl :: below :: t) (pre'.length : Int) = List.replicate (N + 1) zFl := rdR_app _ _ _
  rw [eo, List.length_replicate, g.1, ← partK_zero below ws[pre'.length].1 ws[pre'.length].2 N]
  refine fill1 l N a2 below t pre' ws[pre'.length].1 ws[pre'.length].2 N _ hN hl (by omega) g hb ?_ (N + 1) 0 (by omega)
  rw [w64 (x := (pre'.length : Int) - 1) (by omega) (by omega)]
  exact ih'
theorem fillings_val (l : List S68) (a2 : Int) (ws : List (Nat × Nat)) (N : Nat) (hN : N ≤ 100000) (hl : l.length ≤ 1000) (hg : goodL a2 l ws) : Ev (fun k => impl_fillings.f k l (N : Int) a2) (rowsK N ws) := by
 have hw := hg.1
 unfold impl_fillings.f
 rw [w64_succ (i := l.length) (by omega), Int.toNat_natCast]
 refine Ev.ite_pos (by omega) (Ev.ite_pos (by omega) ?_)
 refine Ev.step (fun n => impl_fillings.l0.eq_2 _ _ _ _ _ _) ?_
 rw [w64_succ (i := N) (by omega), Int.toNat_natCast, Int.toNat_natCast]
 have er : (List.replicate (l.length + 1) ([] : List Fl)) = List.replicate l.length [] ++ [[]] := by rw [← List.replicate_succ']
 have es : ∀ x y : List Fl, ((List.replicate l.length ([] : List Fl)) ++ [x]).set l.length y = List.replicate l.length [] ++ [y] := by
  intro x y
  have := set_app (List.replicate l.length ([] : List Fl)) x y []
  rwa [List.length_replicate] at this
 have eg : ∀ x : List Fl, rd_L9 ((List.replicate l.length ([] : List Fl)) ++ [x]) (l.length : Int) = x := by
  intro x
  have := rdR_app (List.replicate l.length ([] : List Fl)) x []
  rwa [List.length_replicate] at this
 refine Ev.ite_pos (by omega) (Ev.ite_pos (by omega) (Ev.ite_pos (by omega) (Ev.ite_pos (by omega) (Ev.ite_pos (by rw [List.length_replicate]; omega) ?_))))
 refine Ev.call (a := List.replicate l.length [] ++ [List.replicate (N + 1) zFl]) (by rw [er, es]; rfl) (Ev.ite_pos rfl ?_)
 rw [eg, es]
 refine Ev.ite_pos (by rw [List.length_replicate]; omega) ?_
 have h := fill0 l a2 ws N hN hl hg ws.length (List.replicate ws.length []) (by simp) (Nat.le_refl _)
 rw [List.drop_length, hw] at h
 rw [w64 (x := (l.length : Int) - 1) (by omega) (by omega)]
 exact h
end Go.Proofs.Ytpbobnpmiafbbaa.Q

namespace Go.Proofs.Ytpbobnpmiafbbaa.Q
open Go.RowKit Go.Proofs.YtpbobnpmiafbbaaW.PrintWords Go.Proofs.YtpbobnpmiafbbaaW.PrintLast Go.Proofs.YtpbobnpmiafbbaaW.PrintMore
set_option linter.unusedVariables false
set_option linter.unusedSimpArgs false
end Go.Proofs.Ytpbobnpmiafbbaa.Q

namespace Go.Proofs.Ytpbobnpmiafbbaa.Q
open Go.RowKit Go.Proofs.YtpbobnpmiafbbaaW.PrintWords Go.Proofs.YtpbobnpmiafbbaaW.PrintLast Go.Proofs.YtpbobnpmiafbbaaW.PrintMore
set_option linter.unusedVariables false
set_option linter.unusedSimpArgs false
end Go.Proofs.Ytpbobnpmiafbbaa.Q

namespace Go.Proofs.Ytpbobnpmiafbbaa.Q
open Go.RowKit Go.Proofs.YtpbobnpmiafbbaaW.PrintWords Go.Proofs.YtpbobnpmiafbbaaW.PrintLast Go.Proofs.YtpbobnpmiafbbaaW.PrintMore
set_option linter.unusedVariables false
set_option linter.unusedSimpArgs false
theorem rd_set {l : List Int} {i : Nat} (h : i < l.length) (x : Int) : rd (l.set i x) (i : Int) = x := by
 rw [rd_get (by simpa using h)]
 simp
def minK (f : Nat → Int) (w p : Nat) : Nat → Int
 | 0 => -1
 | k + 1 => if k * w ≤ p then (if 0 ≤ f (p - k * w) ∧ (minK f w p k < 0 ∨ f (p - k * w) + k < minK f w p k) then f (p - k * w) + k else minK f w p k) else minK f w p k
def minT : List (Nat × Nat) → Nat → Int
 | [] => fun p => if p = 0 then 0 else -1
 | (w, c) :: t => fun p => minK (minT t) w p (c + 1)
def okE (B M : Int) (e : Fl) (m : Int) : Prop := (m = -1 ∧ e.f0 = 0) ∨ (0 ≤ m ∧ m ≤ M ∧ 1 ≤ e.f0 ∧ e.f0 ≤ B ∧ e.f1 = m)
theorem okE.mono {B M B' M' : Int} {e : Fl} {m : Int} (h : okE B M e m) (hB : B ≤ B') (hM : M ≤ M') : okE B' M' e m := by
 rcases h with h | ⟨h1, h2, h3, h4, h5⟩
 · exact .inl h
 · exact .inr ⟨h1, by omega, h3, by omega, h5⟩
theorem stepK_ok {below : List Fl} {p k : Nat} {own : Fl} {B M X Y mf mo : Int} (hB : 0 ≤ B) (hB2 : B ≤ 4000000000000000000) (hX : 0 ≤ X) (hX2 : X ≤ 4000000000000000000) (hM : 0 ≤ M) (hM2 : M ≤ 100000) (hk : k ≤ 1000)
  (hr : okE B M (rdF below (p : Int)) mf) (ho : okE X Y own mo) (hY : M + k ≤ Y) :
  okE (X + B) Y (stepK below p k own) (if 0 ≤ mf ∧ (mo < 0 ∨ mf + k < mo) then mf + k else mo) := by
 unfold stepK
 rcases hr with ⟨r1, r2⟩ | ⟨r1, r2, r3, r4, r5⟩
 ·
  rw [if_pos r2, if_neg (by omega)]
  exact ho.mono (by omega) (by omega)
 ·
  rw [if_neg (by omega), r5]
  have e1 : wrap64 (mf + (k : Int)) = mf + k := w64 (by omega) (by omega)
  rw [e1]
  rcases ho with ⟨o1, o2⟩ | ⟨o1, o2, o3, o4, o5⟩
  ·
   rw [if_pos (Or.inl o2), if_pos ⟨r1, Or.inl (by omega)⟩]
   refine .inr ⟨by omega, by omega, ?_, ?_, rfl⟩
   ·
    show 1 ≤ wrap64 (own.f0 + (rdF below (p : Int)).f0)
    rw [w64 (by omega) (by omega)]; omega
   ·
    show wrap64 (own.f0 + (rdF below (p : Int)).f0) ≤ X + B
    rw [w64 (by omega) (by omega)]; omega
  ·
   have ew : wrap64 (own.f0 + (rdF below (p : Int)).f0) = own.f0 + (rdF below (p : Int)).f0 := w64 (by omega) (by omega)
   rw [ew, o5]
   by_cases hc : mf + (k : Int) < mo
   ·
    rw [if_pos (Or.inr hc), if_pos ⟨r1, Or.inr hc⟩]
    exact .inr ⟨by omega, by omega, by show 1 ≤ own.f0 + _; omega, by show own.f0 + _ ≤ _; omega, rfl⟩
   ·
    rw [if_neg (by rintro (h | h) <;> omega), if_neg (by rintro ⟨-, h | h⟩ <;> omega)]
    exact .inr ⟨by omega, by omega, by show 1 ≤ own.f0 + _; omega, by show own.f0 + _ ≤ _; omega, rfl⟩
theorem foldK_ok {below : List Fl} {w at_ : Nat} {f : Nat → Int} {B M : Int} (hB : 0 ≤ B) (hB2 : B ≤ 60000000000) (hM : 0 ≤ M) (hM2 : M ≤ 1000) (hb : ∀ p : Nat, p ≤ at_ → okE B M (rdF below (p : Int)) (f p)) :
  ∀ k : Nat, k ≤ 61 → okE ((k : Int) * B) (M + k) (foldK below w at_ k) (minK f w at_ k)
 | 0, _ => .inl ⟨rfl, rfl⟩
 | k + 1, hk => by
  have ih := foldK_ok hB hB2 hM hM2 hb (w := w) k (by omega)
  have e1 : ((k + 1 : Nat) : Int) * B = (k : Int) * B + B := by rw [Int.natCast_add, Int.add_mul]; simp
  have h0 : 0 ≤ (k : Int) * B := Int.mul_nonneg (by omega) hB
  have h1 : (k : Int) * B ≤ 61 * 60000000000 := Int.mul_le_mul (by omega) hB2 hB (by omega)
  rw [e1]
  generalize (k : Int) * B = X at *
  rw [foldK, minK]
  by_cases h : k * w ≤ at_
  ·
   rw [if_pos h, if_pos h]
   exact stepK_ok hB (by omega) h0 (by omega) hM (by omega) (by omega) (hb _ (Nat.sub_le _ _)) (ih.mono (Int.le_refl _) (by omega)) (by omega)
  ·
   rw [if_neg h, if_neg h]
   exact ih.mono (by omega) (by omega)
theorem pow61 (n : Nat) (h : n ≤ 6) : (1 : Int) ≤ (61 ^ n : Nat) ∧ ((61 ^ n : Nat) : Int) ≤ 60000000000 := by
 have h1 : 61 ^ n ≤ 61 ^ 6 := Nat.pow_le_pow_right (by decide) h
 have h2 : 0 < 61 ^ n := Nat.pow_pos (by decide)
 have h3 : 61 ^ 6 ≤ 60000000000 := by decide
 omega
theorem rowsK_ok (N : Nat) : ∀ (ws : List (Nat × Nat)), ws.length ≤ 6 → (∀ x ∈ ws, x.2 ≤ 60) → ∀ p : Nat, p ≤ N → okE ((61 ^ ws.length : Nat) : Int) (61 * ws.length) (rdF ((rowsK N ws).headD []) (p : Int)) (minT ws p)
 | [], _, _, p, hp => by
  show okE _ _ (rdF (baseK N) (p : Int)) (if p = 0 then 0 else -1)
  rw [rdF_get (by simp [baseK]; omega)]
  unfold baseK
  rw [List.getElem_set]
  by_cases h : p = 0
  ·
   subst h
   rw [if_pos rfl, if_pos rfl]
   exact .inr ⟨by omega, by simp, by simp, by simp, rfl⟩
  ·
   rw [if_neg (by omega), if_neg h, List.getElem_replicate]
   exact .inl ⟨rfl, rfl⟩
 | (w, c) :: t, hl, hc, p, hp => by
  have hl' : t.length + 1 ≤ 6 := hl
  have hp6 := pow61 t.length (by omega)
  have hc1 : c ≤ 60 := hc (w, c) (by simp)
  show okE _ _ (rdF (rowK ((rowsK N t).headD []) w c N) (p : Int)) (minK (minT t) w p (c + 1))
  rw [rdF_get (by simp [rowK]; omega)]
  unfold rowK
  rw [List.getElem_map, List.getElem_range]
  have h := foldK_ok (below := (rowsK N t).headD []) (w := w) (at_ := p) (f := minT t) (B := ((61 ^ t.length : Nat) : Int)) (M := 61 * t.length) (by omega) hp6.2 (by omega) (by omega) (fun q hq => rowsK_ok N t (by omega) (fun x hx => hc x (by simp [hx])) q (by omega)) (c + 1) (by omega)
  refine h.mono ?_ ?_
  ·
   rw [List.length_cons, Nat.pow_succ, Nat.mul_comm, Int.natCast_mul]
   exact Int.mul_le_mul_of_nonneg_right (by omega) (by omega)
  · rw [List.length_cons]; omega
theorem minK_cases (f : Nat → Int) (w p : Nat) : ∀ n, minK f w p n = -1 ∨ ∃ k, k < n ∧ k * w ≤ p ∧ 0 ≤ f (p - k * w) ∧ f (p - k * w) + k = minK f w p n
 | 0 => .inl rfl
 | n + 1 => by
  have ih := minK_cases f w p n
  have up : (minK f w p n = -1 ∨ ∃ k, k < n + 1 ∧ k * w ≤ p ∧ 0 ≤ f (p - k * w) ∧ f (p - k * w) + k = minK f w p n) := by
   rcases ih with h | ⟨k, h1, h2, h3, h4⟩
   · exact .inl h
   · exact .inr ⟨k, by omega, h2, h3, h4⟩
  rw [minK]
  by_cases h : n * w ≤ p
  ·
   rw [if_pos h]
   by_cases h2 : 0 ≤ f (p - n * w) ∧ (minK f w p n < 0 ∨ f (p - n * w) + n < minK f w p n)
   ·
    rw [if_pos h2]
    exact .inr ⟨n, by omega, h, h2.1, rfl⟩
   · rw [if_neg h2]; exact up
  · rw [if_neg h]; exact up
def pickK (f : Nat → Int) (w p : Nat) (m : Int) : Nat → Nat → Nat
 | 0, k => k
 | d + 1, k => if k * w ≤ p ∧ 0 ≤ f (p - k * w) ∧ f (p - k * w) + k = m then k else pickK f w p m d (k + 1)
def pickT : List (Nat × Nat) → Nat → List Int
 | [], _ => []
 | (w, c) :: t, p => ((pickK (minT t) w p (minT ((w, c) :: t) p) c 0 : Nat) : Int) :: pickT t (p - pickK (minT t) w p (minT ((w, c) :: t) p) c 0 * w)
theorem pickK_ok {f : Nat → Int} {w p : Nat} {m : Int} : ∀ d k, (∃ j, k ≤ j ∧ j ≤ k + d ∧ j * w ≤ p ∧ 0 ≤ f (p - j * w) ∧ f (p - j * w) + j = m) →
  k ≤ pickK f w p m d k ∧ pickK f w p m d k ≤ k + d ∧ pickK f w p m d k * w ≤ p ∧ 0 ≤ f (p - pickK f w p m d k * w) ∧ f (p - pickK f w p m d k * w) + (pickK f w p m d k : Nat) = m
 | 0, k, ⟨j, h1, h2, h3, h4, h5⟩ => by
  obtain rfl : j = k := by omega
  exact ⟨Nat.le_refl _, by simp [pickK], h3, h4, h5⟩
 | d + 1, k, ⟨j, h1, h2, h3, h4, h5⟩ => by
  unfold pickK
  by_cases h : k * w ≤ p ∧ 0 ≤ f (p - k * w) ∧ f (p - k * w) + k = m
  ·
   rw [if_pos h]
   exact ⟨Nat.le_refl _, by omega, h⟩
  ·
   rw [if_neg h]
   have hne : j ≠ k := by
    rintro rfl
    exact h ⟨h3, h4, h5⟩
   obtain ⟨g1, g2, g3⟩ := pickK_ok d (k + 1) ⟨j, by omega, by omega, h3, h4, h5⟩
   exact ⟨by omega, by omega, g3⟩
theorem pick_ok {w c p : Nat} {t : List (Nat × Nat)} (h : 0 ≤ minT ((w, c) :: t) p) : pickK (minT t) w p (minT ((w, c) :: t) p) c 0 ≤ c ∧ pickK (minT t) w p (minT ((w, c) :: t) p) c 0 * w ≤ p ∧ 0 ≤ minT t (p - pickK (minT t) w p (minT ((w, c) :: t) p) c 0 * w) ∧ minT t (p - pickK (minT t) w p (minT ((w, c) :: t) p) c 0 * w) + (pickK (minT t) w p (minT ((w, c) :: t) p) c 0 : Nat) = minT ((w, c) :: t) p := by
 have hx : ∃ j, 0 ≤ j ∧ j ≤ 0 + c ∧ j * w ≤ p ∧ 0 ≤ minT t (p - j * w) ∧ minT t (p - j * w) + j = minT ((w, c) :: t) p := by
  rcases minK_cases (minT t) w p (c + 1) with h2 | ⟨k, h1, h2, h3, h4⟩
  ·
   have h3 : minT ((w, c) :: t) p = -1 := h2
   omega
  · exact ⟨k, by omega, by omega, h2, h3, h4⟩
 obtain ⟨-, g2, g3⟩ := pickK_ok c 0 hx
 exact ⟨by omega, g3⟩
theorem rowsK_at (N : Nat) : ∀ (ws : List (Nat × Nat)) (i : Nat), i ≤ ws.length → (rowsK N ws).getD i [] = (rowsK N (ws.drop i)).headD []
 | ws, 0, _ => by
  rw [List.drop_zero]
  cases rowsK N ws <;> rfl
 | (w, c) :: t, i + 1, h => by
  rw [List.drop_succ_cons]
  show (rowK _ w c N :: rowsK N t).getD (i + 1) [] = _
  rw [List.getD_cons_succ]
  exact rowsK_at N t i (by simpa using h)
end Go.Proofs.Ytpbobnpmiafbbaa.Q

namespace Go.Proofs.Ytpbobnpmiafbbaa.Q
open Go.RowKit Go.Proofs.YtpbobnpmiafbbaaW.PrintWords Go.Proofs.YtpbobnpmiafbbaaW.PrintLast Go.Proofs.YtpbobnpmiafbbaaW.PrintMore
set_option linter.unusedVariables false
set_option linter.unusedSimpArgs false
theorem minK_stop (f : Nat → Int) {w at_ k : Nat} (h : at_ < k * w) : ∀ d, minK f w at_ (k + d) = minK f w at_ k
 | 0 => rfl
 | d + 1 => by
  have h2 : k * w ≤ (k + d) * w := Nat.mul_le_mul_right _ (by omega)
  show (if (k + d) * w ≤ at_ then _ else minK f w at_ (k + d)) = _
  rw [if_neg (Nat.not_le.2 (Nat.lt_of_lt_of_le h h2))]
  exact minK_stop f h d
def tblM (N : Nat) (f : Nat → Int) : List Int := (List.range (N + 1)).map f
theorem tblM_len (N : Nat) (f : Nat → Int) : (tblM N f).length = N + 1 := by simp [tblM]
theorem tblM_get (N : Nat) (f : Nat → Int) {p : Nat} (h : p < N + 1) : rd (tblM N f) (p : Int) = f p := by
 rw [rd_get (by rw [tblM_len]; exact h)]
 simp [tblM]
def tabM (N : Nat) : List (Nat × Nat) → List (List Int)
 | [] => [tblM N (minT [])]
 | x :: t => tblM N (minT (x :: t)) :: tabM N t
theorem tabM_cons (N : Nat) : ∀ ws, ∃ t, tabM N ws = tblM N (minT ws) :: t
 | [] => ⟨_, rfl⟩
 | x :: t => ⟨_, rfl⟩
theorem tabM_len (N : Nat) : ∀ ws, (tabM N ws).length = ws.length + 1
 | [] => rfl
 | x :: t => by simp [tabM, tabM_len N t]
theorem tabM_at (N : Nat) : ∀ (ws : List (Nat × Nat)) (i : Nat), i ≤ ws.length → (tabM N ws).getD i [] = tblM N (minT (ws.drop i))
 | [], 0, _ => rfl
 | x :: t, 0, _ => rfl
 | x :: t, i + 1, h => by
  rw [List.drop_succ_cons]
  show (tblM N _ :: tabM N t).getD (i + 1) [] = _
  rw [List.getD_cons_succ]
  exact tabM_at N t i (by simpa using h)
def partM (N n : Nat) (f : Nat → Int) : List Int := (List.range (N + 1)).map fun p => if p < n then f p else 0
theorem partM_len (N n : Nat) (f : Nat → Int) : (partM N n f).length = N + 1 := by simp [partM]
theorem partM_zero (N : Nat) (f : Nat → Int) : partM N 0 f = List.replicate (N + 1) 0 := by
 apply List.ext_getElem <;> simp [partM]
theorem partM_full (N : Nat) (f : Nat → Int) : partM N (N + 1) f = tblM N f := by
 apply List.ext_getElem
 · simp [partM, tblM]
 ·
  intro i h1 h2
  simp [partM] at h1
  simp [partM, tblM]
  omega
theorem partM_succ (N n : Nat) (f : Nat → Int) : (partM N n f).set n (f n) = partM N (n + 1) f := by
 apply List.ext_getElem
 · simp [partM]
 ·
  intro i h1 h2
  rw [List.getElem_set]
  simp only [partM, List.getElem_map, List.getElem_range]
  by_cases h : n = i
  ·
   subst h
   simp
  ·
   rw [if_neg h]
   by_cases h3 : i < n
   · rw [if_pos h3, if_pos (by omega)]
   · rw [if_neg h3, if_neg (by omega)]
theorem tab3 (l : List S68) (a1 : Int) (ft : Nat → Int) (rest : List (List Int)) (i w c N at_ : Nat) (r : List (List Int)) (hN : N ≤ 100000) (hl : l.length ≤ 1000) (hi : i < l.length) (hg : goodS a1 (rd_T68 l (i : Int)) w c) (hf : ∀ p, -1 ≤ ft p ∧ ft p ≤ 100000) (hat : at_ < N + 1)
  (hend : Ev (fun k => spec_l03Table.l2 k l a1 (N : Int) (tblM N ft :: rest) (i : Int) (w : Int) (partM N (at_ + 1) (fun p => minK ft w p (c + 1))) ((at_ + 1 : Nat) : Int)) r) :
  ∀ d k, k + d = c + 1 → Ev (fun n => spec_l03Table.l3 n l a1 (N : Int) (tblM N ft :: rest) (i : Int) (w : Int) ((partM N at_ (fun p => minK ft w p (c + 1))).set at_ (minK ft w at_ k)) (at_ : Int) (k : Int)) r := by
 obtain ⟨g1, g2, g3, g4, g5⟩ := hg
 have stop : ∀ k, minK ft w at_ k = minK ft w at_ (c + 1) → Ev (fun n => spec_l03Table.j4 n l a1 (N : Int) (tblM N ft :: rest) (i : Int) (w : Int) ((partM N at_ (fun p => minK ft w p (c + 1))).set at_ (minK ft w at_ k)) (at_ : Int) (k : Int) false) r := by
  intro k e
  have h := partM_succ N at_ (fun p => minK ft w p (c + 1))
  refine Ev.step (fun n => spec_l03Table.j4.eq_2 _ _ _ _ _ _ _ _ _ _ _) (Ev.ite_neg (by decide) ?_)
  rw [e, h, w64_succ (by omega)]
  exact hend
 intro d
 induction d with
 | zero =>
  intro k hk
  obtain rfl : k = c + 1 := by omega
  refine Ev.step (fun n => spec_l03Table.l3.eq_2 _ _ _ _ _ _ _ _ _ _) ?_
  rw [g2]
  exact Ev.ite_pos (by omega) (Ev.ite_pos (by omega) (Ev.ite_neg (by omega) (stop _ rfl)))
 | succ d ih =>
  intro k hk
  refine Ev.step (fun n => spec_l03Table.l3.eq_2 _ _ _ _ _ _ _ _ _ _) ?_
  obtain ⟨m, hm⟩ : ∃ m : Nat, m = k * w := ⟨_, rfl⟩
  have hmb : m ≤ 1000000 := by
   have h1 : k * w ≤ 1000 * 1000 := Nat.mul_le_mul (by omega) g4
   rw [hm]
   exact Nat.le_trans h1 (by decide)
  have e1 : wrap64 ((k : Int) * (w : Int)) = (m : Int) := by
   have h2 : (k : Int) * (w : Int) = (m : Int) := by rw [hm]; simp
   rw [h2]
   clear h2 hm
   exact w64 (by omega) (by omega)
  have hst : at_ < m → minK ft w at_ k = minK ft w at_ (c + 1) := by
   intro h3
   have h4 := minK_stop ft (w := w) (at_ := at_) (k := k) (by rw [← hm]; exact h3) (c + 1 - k)
   clear hm e1
   rw [show k + (c + 1 - k) = c + 1 by omega] at h4
   exact h4.symm
  have hfo : m ≤ at_ → minK ft w at_ (k + 1) = if 0 ≤ ft (at_ - m) ∧ (minK ft w at_ k < 0 ∨ ft (at_ - m) + k < minK ft w at_ k) then ft (at_ - m) + k else minK ft w at_ k := by
   intro h3
   rw [minK, ← hm, if_pos h3]
  rw [g2, e1]
  have step : ∀ b : Bool, Ev (fun n => spec_l03Table.j4 n l a1 (N : Int) (tblM N ft :: rest) (i : Int) (w : Int) ((partM N at_ (fun p => minK ft w p (c + 1))).set at_ (minK ft w at_ k)) (at_ : Int) (k : Int) (decide ((m : Int) ≤ (at_ : Int)))) r → Ev (fun n => if 0 ≤ (i : Int) then (if (i : Int) < (l.length : Int) then (if (k : Int) ≤ (c : Int) then spec_l03Table.j4 n l a1 (N : Int) (tblM N ft :: rest) (i : Int) (w : Int) ((partM N at_ (fun p => minK ft w p (c + 1))).set at_ (minK ft w at_ k)) (at_ : Int) (k : Int) (decide ((m : Int) ≤ (at_ : Int))) else spec_l03Table.j4 n l a1 (N : Int) (tblM N ft :: rest) (i : Int) (w : Int) ((partM N at_ (fun p => minK ft w p (c + 1))).set at_ (minK ft w at_ k)) (at_ : Int) (k : Int) false) else none) else none) r := fun _ h => Ev.ite_pos (by omega) (Ev.ite_pos (by omega) (Ev.ite_pos (by omega) h))
  refine step true ?_
  by_cases hkat : m ≤ at_
  ·
   have ih' := ih (k + 1) (by omega)
   have ef := hfo hkat
   rw [show decide ((m : Int) ≤ (at_ : Int)) = true from decide_eq_true (Int.ofNat_le.2 hkat)]
   refine Ev.step (fun n => spec_l03Table.j4.eq_2 _ _ _ _ _ _ _ _ _ _ _) (Ev.ite_pos rfl ?_)
   rw [e1]
   clear e1 hm step hst hfo
   obtain ⟨f0, f1⟩ := hf (at_ - m)
   have er : rd_L4 (tblM N ft :: rest) 0 = tblM N ft := rfl
   rw [er, w64_succ (i := k) (by omega), w64 (x := (at_ : Int) - (m : Int)) (by omega) (by omega), show (at_ : Int) - (m : Int) = ((at_ - m : Nat) : Int) by omega, tblM_get N ft (by omega), rd_set (by rw [partM_len]; exact hat), Int.toNat_natCast, List.set_set]
   have hlen : (at_ : Int) < ((((partM N at_ fun p => minK ft w p (c + 1)).set at_ (minK ft w at_ k)).length : Nat) : Int) := by rw [List.length_set, partM_len]; omega
   refine Ev.ite_pos (by simp only [List.length_cons]; omega) (Ev.ite_pos (by omega) (Ev.ite_pos (by rw [tblM_len]; omega) ?_))
   by_cases h0 : ft (at_ - m) ≥ 0
   ·
    have ew : wrap64 (ft (at_ - m) + (k : Int)) = ft (at_ - m) + k := w64 (by omega) (by omega)
    refine Ev.ite_pos h0 (Ev.ite_pos (by omega) (Ev.ite_pos hlen ?_))
    rw [ew]
    by_cases h1 : minK ft w at_ k < 0
    ·
     rw [if_pos ⟨h0, Or.inl h1⟩] at ef
     rw [ef] at ih'
     exact Ev.ite_pos h1 ih'
    ·
     refine Ev.ite_neg h1 ?_
     by_cases h2 : ft (at_ - m) + (k : Int) < minK ft w at_ k
     ·
      rw [if_pos ⟨h0, Or.inr h2⟩] at ef
      rw [ef] at ih'
      exact Ev.ite_pos h2 ih'
     ·
      rw [if_neg (by rintro ⟨-, h | h⟩ <;> omega)] at ef
      rw [ef] at ih'
      exact Ev.ite_neg h2 ih'
   ·
    rw [if_neg (by rintro ⟨h, -⟩; omega)] at ef
    rw [ef] at ih'
    exact Ev.ite_neg h0 ih'
  ·
   rw [show decide ((m : Int) ≤ (at_ : Int)) = false from decide_eq_false (fun h => hkat (Int.ofNat_le.1 h))]
   exact stop k (hst (Nat.lt_of_not_le hkat))
theorem tab2 (l : List S68) (a1 : Int) (ft : Nat → Int) (rest : List (List Int)) (i w c N : Nat) (r : List (List Int)) (hN : N ≤ 100000) (hl : l.length ≤ 1000) (hr : rest.length ≤ 1000) (hi : i < l.length) (hg : goodS a1 (rd_T68 l (i : Int)) w c) (hf : ∀ p, -1 ≤ ft p ∧ ft p ≤ 100000)
  (hend : Ev (fun k => spec_l03Table.l1 k l a1 (N : Int) (tblM N (fun p => minK ft w p (c + 1)) :: tblM N ft :: rest) ((i : Int) - 1)) r) :
  ∀ d at_, at_ + d = N + 1 → Ev (fun n => spec_l03Table.l2 n l a1 (N : Int) (tblM N ft :: rest) (i : Int) (w : Int) (partM N at_ (fun p => minK ft w p (c + 1))) (at_ : Int)) r := by
 intro d
 induction d with
 | zero =>
  intro at_ h
  obtain rfl : at_ = N + 1 := by omega
  refine Ev.step (fun n => spec_l03Table.l2.eq_2 _ _ _ _ _ _ _ _ _) (Ev.ite_neg (by omega) (Ev.call rfl (Ev.ite_pos (by simp only [List.length_cons, List.length_nil]; omega) ?_)))
  rw [partM_full, w64 (x := (i : Int) - 1) (by omega) (by omega)]
  exact hend
 | succ d ih =>
  intro at_ h
  refine Ev.step (fun n => spec_l03Table.l2.eq_2 _ _ _ _ _ _ _ _ _) (Ev.ite_pos (by omega) (Ev.ite_pos (by omega) (Ev.ite_pos (by rw [partM_len]; omega) ?_)))
  rw [Int.toNat_natCast]
  exact tab3 l a1 ft rest i w c N at_ r hN hl hi hg hf (by omega) (ih (at_ + 1) (by omega)) (c + 1) 0 (by omega)
theorem tab1 (l : List S68) (a1 : Int) (ws : List (Nat × Nat)) (N : Nat) (hN : N ≤ 100000) (hl : l.length ≤ 1000) (hg : goodL a1 l ws) (hf : ∀ m p, -1 ≤ minT (ws.drop m) p ∧ minT (ws.drop m) p ≤ 100000) :
  ∀ m, m ≤ ws.length → Ev (fun k => spec_l03Table.l1 k l a1 (N : Int) (tabM N (ws.drop m)) ((m : Int) - 1)) (tabM N ws) := by
 intro m
 induction m with
 | zero =>
  intro _
  exact Ev.step (fun n => spec_l03Table.l1.eq_2 _ _ _ _ _ _) (Ev.ite_neg (by omega) (Ev.now _))
 | succ m ih =>
  intro hm
  obtain ⟨hw, hgs⟩ := hg
  have g := hgs m (by omega)
  obtain ⟨t, et⟩ := tabM_cons N (ws.drop (m + 1))
  have hlt := tabM_len N (ws.drop (m + 1))
  rw [et, List.length_cons, List.length_drop] at hlt
  have ih' := ih (by omega)
  rw [List.drop_eq_getElem_cons (show m < ws.length by omega)] at ih'
  have e2 : tabM N (ws[m] :: ws.drop (m + 1)) = tblM N (fun p => minK (minT (ws.drop (m + 1))) ws[m].1 p (ws[m].2 + 1)) :: tabM N (ws.drop (m + 1)) := rfl
  rw [e2, et] at ih'
  rw [et, show ((m + 1 : Nat) : Int) - 1 = (m : Int) by omega]
  refine Ev.step (fun n => spec_l03Table.l1.eq_2 _ _ _ _ _ _) ?_
  rw [g.1, w64_succ (i := N) (by omega), Int.toNat_natCast]
  refine Ev.ite_pos (by omega) (Ev.ite_pos (by omega) (Ev.ite_pos (by omega) (Ev.ite_pos (by omega) (Ev.ite_pos (by omega) ?_))))
  rw [← partM_zero N (fun p => minK (minT (ws.drop (m + 1))) ws[m].1 p (ws[m].2 + 1))]
  exact tab2 l a1 _ t m ws[m].1 ws[m].2 N _ hN hl (by omega) (by omega) g (hf (m + 1)) ih' (N + 1) 0 (by omega)
theorem table_val (l : List S68) (a1 : Int) (ws : List (Nat × Nat)) (N : Nat) (hN : N ≤ 100000) (hl : l.length ≤ 1000) (hg : goodL a1 l ws) (hf : ∀ m p, -1 ≤ minT (ws.drop m) p ∧ minT (ws.drop m) p ≤ 100000) : Ev (fun k => spec_l03Table.f k l a1 (N : Int)) (tabM N ws) := by
 unfold spec_l03Table.f
 rw [w64_succ (i := N) (by omega), Int.toNat_natCast]
 refine Ev.ite_pos (by omega) (Ev.ite_pos (by omega) ?_)
 have key : ∀ d n, n + d = N + 1 → 1 ≤ n → Ev (fun k => spec_l03Table.l0 k l a1 (N : Int) (partM N n (minT [])) (n : Int)) (tabM N ws) := by
  intro d
  induction d with
  | zero =>
   intro n hn _
   obtain rfl : n = N + 1 := by omega
   refine Ev.step (fun n => spec_l03Table.l0.eq_2 _ _ _ _ _ _) (Ev.ite_neg (by omega) ?_)
   rw [partM_full, w64 (x := (l.length : Int) - 1) (by omega) (by omega)]
   have h := tab1 l a1 ws N hN hl hg hf ws.length (Nat.le_refl _)
   rw [List.drop_length, hg.1] at h
   exact h
  | succ d ih =>
   intro n hn h1
   refine Ev.step (fun n => spec_l03Table.l0.eq_2 _ _ _ _ _ _) (Ev.ite_pos (by omega) (Ev.ite_pos (by omega) (Ev.ite_pos (by rw [partM_len]; omega) ?_)))
   have h2 := partM_succ N n (minT [])
   rw [show minT [] n = -1 from if_neg (by omega)] at h2
   rw [Int.toNat_natCast, h2, w64_succ (by omega)]
   exact ih (n + 1) (by omega) (by omega)
 have h3 : partM N 1 (minT []) = List.replicate (N + 1) 0 := by
  apply List.ext_getElem
  · simp [partM]
  ·
   intro i h1 h2
   simp only [partM, List.getElem_map, List.getElem_range, List.getElem_replicate]
   by_cases hi : i < 1
   ·
    rw [if_pos hi]
    exact if_pos (by omega)
   · rw [if_neg hi]
 have h4 := key N 1 (by omega) (by omega)
 rw [h3] at h4
 exact h4
end Go.Proofs.Ytpbobnpmiafbbaa.Q

namespace Go.Proofs.Ytpbobnpmiafbbaa.Q
open Go.RowKit Go.Proofs.YtpbobnpmiafbbaaW.PrintWords Go.Proofs.YtpbobnpmiafbbaaW.PrintLast Go.Proofs.YtpbobnpmiafbbaaW.PrintMore
set_option linter.unusedVariables false
set_option linter.unusedSimpArgs false
theorem pickK_least {f : Nat → Int} {w p : Nat} {m : Int} : ∀ d k j, k ≤ j → j < pickK f w p m d k → ¬ (j * w ≤ p ∧ 0 ≤ f (p - j * w) ∧ f (p - j * w) + j = m)
 | 0, k, j, h1, h2 => by unfold pickK at h2; omega
 | d + 1, k, j, h1, h2 => by
  unfold pickK at h2
  by_cases h : k * w ≤ p ∧ 0 ≤ f (p - k * w) ∧ f (p - k * w) + k = m
  · rw [if_pos h] at h2; omega
  ·
   rw [if_neg h] at h2
   by_cases hj : j = k
   · rw [hj]; exact h
   · exact pickK_least d (k + 1) j (by omega) h2
def fillR (ws : List (Nat × Nat)) (N : Nat) : List Int × Int × Bool := if 0 ≤ minT ws N then (pickT ws N, minT ws N, true) else ([], 0, false)
def fineW (ws : List (Nat × Nat)) : Prop := ws.length ≤ 6 ∧ ∀ x ∈ ws, x.2 ≤ 60
theorem fineW.drop {ws : List (Nat × Nat)} (h : fineW ws) (m : Nat) : fineW (ws.drop m) := ⟨by rw [List.length_drop]; have := h.1; omega, fun x hx => h.2 x (List.mem_of_mem_drop hx)⟩
theorem minT_bound {ws : List (Nat × Nat)} (h : fineW ws) (p : Nat) : -1 ≤ minT ws p ∧ minT ws p ≤ 1000 := by
 have h1 := h.1
 rcases rowsK_ok p ws h.1 h.2 p (Nat.le_refl _) with ⟨h2, -⟩ | ⟨h2, h3, -⟩ <;> omega
theorem kw_le {k q w p : Nat} (h : k ≤ q) (hq : q * w ≤ p) : k * w ≤ p := Nat.le_trans (Nat.mul_le_mul_right _ h) hq
theorem kw_cast (k w m : Nat) (h : m = k * w) (hb : m ≤ 1000000) : wrap64 ((k : Int) * (w : Int)) = (m : Int) := by
 have h2 : (k : Int) * (w : Int) = (m : Int) := by rw [h]; simp
 rw [h2]
 clear h2 h
 exact w64 (by omega) (by omega)
theorem impl1 (l : List S68) (a2 : Int) (ws : List (Nat × Nat)) (N i p w c : Nat) (out : List Int) (x7 x8 : Int) (r : List Int × Int × Bool) (hN : N ≤ 100000) (hF : fineW ws) (hp : p ≤ N) (hi : i < ws.length) (hw : ws[i] = (w, c)) (hg : goodS a2 (rd_T68 l (i : Int)) w c) (hout : out.length ≤ 1000) (q : Nat) (m : Int)
  (hq : q = pickK (minT (ws.drop (i + 1))) w p m c 0) (hqc : q ≤ c) (hqw : q * w ≤ p) (hq0 : 0 ≤ minT (ws.drop (i + 1)) (p - q * w)) (hqm : minT (ws.drop (i + 1)) (p - q * w) + q = m)
  (hend : Ev (fun k => impl_fill.l0 k ((p - q * w : Nat) : Int) a2 (rowsK N ws) (out ++ [(q : Int)]) (m - q) l (l.length : Int) ((i + 1 : Nat) : Int) x7 x8) r) :
  ∀ d k, k + d = q → Ev (fun n => impl_fill.l1 n (p : Int) a2 (rowsK N ws) out m (i : Int) (k : Int) l (l.length : Int) (i : Int) x7 x8 (rd_T68 l (i : Int)).f0 (rd_T68 l (i : Int)).f1) r := by
 obtain ⟨g1, g2, g3, g4, g5⟩ := hg
 have hc : c ≤ 60 := by
  have := hF.2 (w, c) (by rw [← hw]; exact List.getElem_mem _)
  exact this
 have hF1 := hF.1
 have hlen := rowsK_len N ws
 have hat := rowsK_at N ws (i + 1) (by omega)
 have erow : rd_L9 (rowsK N ws) ((i + 1 : Nat) : Int) = (rowsK N (ws.drop (i + 1))).headD [] := by
  unfold rd_L9
  rw [Int.toNat_natCast]
  exact hat
 have hhead := rowsK_head N (ws.drop (i + 1))
 have common : ∀ k, k ≤ q → ∀ (A B : Nat → Option (List Int × Int × Bool)),
   (((0 ≤ minT (ws.drop (i + 1)) (p - k * w) ∧ minT (ws.drop (i + 1)) (p - k * w) + k = m) → Ev A r) ∧ (¬ (0 ≤ minT (ws.drop (i + 1)) (p - k * w) ∧ minT (ws.drop (i + 1)) (p - k * w) + k = m) → Ev B r)) →
   Ev (fun n => if 0 ≤ (wrap64 ((i : Int) + 1)) then (if (wrap64 ((i : Int) + 1)) < ((rowsK N ws).length : Int) then (if 0 ≤ (wrap64 ((p : Int) - (wrap64 ((k : Int) * (wrap64 ((wrap64 (rd_T68 l (i : Int)).f0) + a2)))))) then (if (wrap64 ((p : Int) - (wrap64 ((k : Int) * (wrap64 ((wrap64 (rd_T68 l (i : Int)).f0) + a2)))))) < ((rd_L9 (rowsK N ws) (wrap64 ((i : Int) + 1))).length : Int) then (if ((rd_T108 (rd_L9 (rowsK N ws) (wrap64 ((i : Int) + 1))) (wrap64 ((p : Int) - (wrap64 ((k : Int) * (wrap64 ((wrap64 (rd_T68 l (i : Int)).f0) + a2))))))).f0) > 0 then (if (wrap64 (((rd_T108 (rd_L9 (rowsK N ws) (wrap64 ((i : Int) + 1))) (wrap64 ((p : Int) - (wrap64 ((k : Int) * (wrap64 ((wrap64 (rd_T68 l (i : Int)).f0) + a2))))))).f1) + (k : Int))) = m then A n else B n) else B n) else none) else none) else none) else none) r := by
  intro k hk A B hAB
  have hkw : k * w ≤ p := kw_le hk hqw
  obtain ⟨z, hz⟩ : ∃ z : Nat, z = k * w := ⟨_, rfl⟩
  rw [g1, w64_succ (i := i) (by omega), erow, kw_cast k w z hz (by omega)]
  rw [← hz] at hkw hAB
  clear hz
  rw [w64 (x := (p : Int) - (z : Int)) (by omega) (by omega), show (p : Int) - (z : Int) = ((p - z : Nat) : Int) by omega]
  refine Ev.ite_pos (by omega) (Ev.ite_pos (by omega) (Ev.ite_pos (by omega) (Ev.ite_pos (by omega) ?_)))
  have hok := rowsK_ok N (ws.drop (i + 1)) (hF.drop (i + 1)).1 (hF.drop (i + 1)).2 (p - z) (by omega)
  have hb := minT_bound (hF.drop (i + 1)) (p - z)
  show Ev (fun n => if (rdF _ ((p - z : Nat) : Int)).f0 > 0 then (if wrap64 ((rdF _ ((p - z : Nat) : Int)).f1 + (k : Int)) = m then A n else B n) else B n) r
  rcases hok with ⟨o1, o2⟩ | ⟨o1, o2, o3, o4, o5⟩
  · exact Ev.ite_neg (by omega) (hAB.2 (by omega))
  ·
   refine Ev.ite_pos (by omega) ?_
   rw [o5, w64 (by omega) (by omega)]
   by_cases h : minT (ws.drop (i + 1)) (p - z) + (k : Int) = m
   · exact Ev.ite_pos h (hAB.1 ⟨o1, h⟩)
   · exact Ev.ite_neg h (hAB.2 (fun h2 => h h2.2))
 intro d
 induction d with
 | zero =>
  intro k hk
  obtain rfl : k = q := by omega
  refine Ev.step (fun n => impl_fill.l1.eq_2 _ _ _ _ _ _ _ _ _ _ _ _ _ _ _) (common k (Nat.le_refl _) _ _ ⟨fun _ => ?_, fun h => absurd ⟨hq0, hqm⟩ h⟩)
  obtain ⟨z, hz⟩ : ∃ z : Nat, z = k * w := ⟨_, rfl⟩
  have hm : m ≤ 100000 := by have := minT_bound (hF.drop (i + 1)) (p - k * w); omega
  rw [g1, kw_cast k w z hz (by omega), w64_succ (i := i) (by omega)]
  rw [← hz] at hqw hend hq0 hqm
  clear hz hq common
  rw [w64 (x := (p : Int) - (z : Int)) (by omega) (by omega), show (p : Int) - (z : Int) = ((p - z : Nat) : Int) by omega, w64 (x := m - (k : Int)) (by omega) (by omega)]
  exact Ev.ite_pos (by omega) hend
 | succ d ih =>
  intro k hk
  have hnot : ¬ (0 ≤ minT (ws.drop (i + 1)) (p - k * w) ∧ minT (ws.drop (i + 1)) (p - k * w) + k = m) := fun h => pickK_least c 0 k (by omega) (by omega) ⟨kw_le (q := q) (by omega) hqw, h⟩
  refine Ev.step (fun n => impl_fill.l1.eq_2 _ _ _ _ _ _ _ _ _ _ _ _ _ _ _) (common k (by omega) _ _ ⟨fun h => absurd h hnot, fun _ => ?_⟩)
  rw [w64_succ (i := k) (by omega)]
  exact ih (k + 1) (by omega)
theorem impl0 (l : List S68) (a2 : Int) (ws : List (Nat × Nat)) (N : Nat) (x7 x8 : Int) (hN : N ≤ 100000) (hF : fineW ws) (hg : goodL a2 l ws) :
  ∀ d i p (out : List Int), i + d = ws.length → p ≤ N → out.length = i → 0 ≤ minT (ws.drop i) p →
   Ev (fun k => impl_fill.l0 k (p : Int) a2 (rowsK N ws) out (minT (ws.drop i) p) l (l.length : Int) (i : Int) x7 x8) (out ++ pickT (ws.drop i) p, x8, true) := by
 intro d
 have hw := hg.1
 have hF1 := hF.1
 induction d with
 | zero =>
  intro i p out hi hp ho hm
  refine Ev.step (fun n => impl_fill.l0.eq_2 _ _ _ _ _ _ _ _ _ _ _) (Ev.ite_neg (by omega) ?_)
  rw [List.drop_of_length_le (show ws.length ≤ i by omega)]
  exact Ev.eq_ (Ev.now _) (by simp [pickT])
 | succ d ih =>
  intro i p out hi hp ho hm
  have hi' : i < ws.length := by omega
  obtain ⟨w, c, hwc⟩ : ∃ w c, ws[i] = (w, c) := ⟨_, _, rfl⟩
  have g := hg.2 i hi'
  rw [hwc] at g
  have ed : ws.drop i = (w, c) :: ws.drop (i + 1) := by rw [List.drop_eq_getElem_cons hi', hwc]
  rw [ed] at hm ⊢
  obtain ⟨q1, q2, q3, q4⟩ := pick_ok hm
  have hpick : pickT ((w, c) :: ws.drop (i + 1)) p = ((pickK (minT (ws.drop (i + 1))) w p (minT ((w, c) :: ws.drop (i + 1)) p) c 0 : Nat) : Int) :: pickT (ws.drop (i + 1)) (p - pickK (minT (ws.drop (i + 1))) w p (minT ((w, c) :: ws.drop (i + 1)) p) c 0 * w) := rfl
  rw [hpick]
  generalize hq : pickK (minT (ws.drop (i + 1))) w p (minT ((w, c) :: ws.drop (i + 1)) p) c 0 = q at *
  refine Ev.step (fun n => impl_fill.l0.eq_2 _ _ _ _ _ _ _ _ _ _ _) (Ev.ite_pos (by omega) (Ev.ite_pos (by omega) (Ev.ite_pos (by omega) ?_)))
  refine impl1 l a2 ws N i p w c out x7 x8 _ hN hF hp hi' hwc g (by omega) q _ hq.symm q1 q2 q3 q4 ?_ q 0 (by omega)
  have h := ih (i + 1) (p - q * w) (out ++ [(q : Int)]) (by omega) (by omega) (by simp [ho]) q3
  rw [← q4, show minT (ws.drop (i + 1)) (p - q * w) + (q : Int) - (q : Int) = minT (ws.drop (i + 1)) (p - q * w) by omega]
  rw [List.append_assoc, List.singleton_append] at h
  exact h
theorem implFill (l : List S68) (a1 a2 : Int) (ws : List (Nat × Nat)) (N : Nat) (hN : N ≤ 100000) (hF : fineW ws) (hg : goodL a2 l ws) (hs : wrap64 (a1 + a2) = (N : Int)) : Ev (fun k => impl_fill.f k l a1 a2) (fillR ws N) := by
 have hw := hg.1
 have hF1 := hF.1
 have hlen := rowsK_len N ws
 have hhead := rowsK_head N ws
 unfold impl_fill.f
 rw [hs]
 refine Ev.bind (fillings_val l a2 ws N hN (by omega) hg) ?_
 have e0 : rd_L9 (rowsK N ws) 0 = (rowsK N ws).headD [] := by cases rowsK N ws <;> rfl
 rw [e0]
 refine Ev.ite_pos (by omega) (Ev.ite_pos (by omega) (Ev.ite_pos (by omega) ?_))
 show Ev (fun k => if (rdF _ (N : Int)).f0 = 0 then _ else impl_fill.l0 k (N : Int) a2 (rowsK N ws) [] (rdF _ (N : Int)).f1 l (l.length : Int) 0 (rdF _ (N : Int)).f0 (rdF _ (N : Int)).f1) _
 unfold fillR
 rcases rowsK_ok N ws hF.1 hF.2 N (Nat.le_refl _) with ⟨o1, o2⟩ | ⟨o1, o2, o3, o4, o5⟩
 ·
  rw [if_neg (by omega)]
  exact Ev.ite_pos o2 (Ev.now _)
 ·
  rw [if_pos o1, o5]
  refine Ev.ite_neg (by omega) ?_
  have h := impl0 l a2 ws N (rdF ((rowsK N ws).headD []) (N : Int)).f0 (minT ws N) hN hF hg ws.length 0 N [] (by omega) (Nat.le_refl _) rfl o1
  exact h
theorem spec1 (l : List S68) (a2 : Int) (ws : List (Nat × Nat)) (N i p w c : Nat) (out : List Int) (al : Int) (r : List Int × Int × Bool) (hN : N ≤ 100000) (hF : fineW ws) (hp : p ≤ N) (hi : i < ws.length) (hw : ws[i] = (w, c)) (hg : goodS a2 (rd_T68 l (i : Int)) w c) (hout : out.length ≤ 1000) (q : Nat)
  (hq : q = pickK (minT (ws.drop (i + 1))) w p (minT (ws.drop i) p) c 0) (hqc : q ≤ c) (hqw : q * w ≤ p) (hq0 : 0 ≤ minT (ws.drop (i + 1)) (p - q * w)) (hqm : minT (ws.drop (i + 1)) (p - q * w) + q = minT (ws.drop i) p)
  (hend : Ev (fun k => spec_l03Fill.l0 k l a2 ((p - q * w : Nat) : Int) (tabM N ws) al (out ++ [(q : Int)]) ((i + 1 : Nat) : Int)) r) :
  ∀ d k, k + d = q → Ev (fun n => spec_l03Fill.l1 n l a2 (p : Int) (tabM N ws) al out (i : Int) (w : Int) (k : Int)) r := by
 obtain ⟨g1, g2, g3, g4, g5⟩ := hg
 have hc : c ≤ 60 := by
  have := hF.2 (w, c) (by rw [← hw]; exact List.getElem_mem _)
  exact this
 have hF1 := hF.1
 have hlen := tabM_len N ws
 have rdL : ∀ j : Nat, j ≤ ws.length → rd_L4 (tabM N ws) (j : Int) = tblM N (minT (ws.drop j)) := by
  intro j hj
  unfold rd_L4
  rw [Int.toNat_natCast]
  exact tabM_at N ws j hj
 intro d
 induction d with
 | zero =>
  intro k hk
  obtain rfl : k = q := by omega
  obtain ⟨z, hz⟩ : ∃ z : Nat, z = k * w := ⟨_, rfl⟩
  have hb := minT_bound (hF.drop (i + 1)) (p - k * w)
  refine Ev.step (fun n => spec_l03Fill.l1.eq_2 _ _ _ _ _ _ _ _ _ _) ?_
  rw [kw_cast k w z hz (by omega), w64_succ (i := i) (by omega), rdL (i + 1) (by omega), rdL i (by omega)]
  rw [← hz] at hqw hend hq0 hqm hb
  clear hz hq
  rw [w64 (x := (p : Int) - (z : Int)) (by omega) (by omega), show (p : Int) - (z : Int) = ((p - z : Nat) : Int) by omega, tblM_get N _ (by omega), tblM_get N _ (by omega), tblM_len, tblM_len, w64 (x := minT (ws.drop (i + 1)) (p - z) + (k : Int)) (by omega) (by omega)]
  exact Ev.ite_neg (by omega) (Ev.ite_pos (by omega) (Ev.ite_pos (by omega) (Ev.ite_pos (by omega) (Ev.ite_pos (by omega) (Ev.ite_neg (by omega) (Ev.ite_pos (by omega) (Ev.ite_pos (by omega) (Ev.ite_pos (by omega) (Ev.ite_pos (by omega) (Ev.ite_pos hqm (Ev.ite_pos (by omega) hend)))))))))))
 | succ d ih =>
  intro k hk
  have hkw := kw_le (k := k) (q := q) (by omega) hqw
  have hnot : ¬ (0 ≤ minT (ws.drop (i + 1)) (p - k * w) ∧ minT (ws.drop (i + 1)) (p - k * w) + k = minT (ws.drop i) p) := fun h => pickK_least c 0 k (by omega) (by omega) ⟨hkw, h⟩
  obtain ⟨z, hz⟩ : ∃ z : Nat, z = k * w := ⟨_, rfl⟩
  have hb := minT_bound (hF.drop (i + 1)) (p - k * w)
  have ih' := ih (k + 1) (by omega)
  refine Ev.step (fun n => spec_l03Fill.l1.eq_2 _ _ _ _ _ _ _ _ _ _) ?_
  rw [kw_cast k w z hz (by omega), w64_succ (i := i) (by omega), rdL (i + 1) (by omega), rdL i (by omega), w64_succ (i := k) (by omega)]
  rw [← hz] at hkw hnot hb
  clear hz hq
  rw [w64 (x := (p : Int) - (z : Int)) (by omega) (by omega), show (p : Int) - (z : Int) = ((p - z : Nat) : Int) by omega, tblM_get N _ (by omega), tblM_get N _ (by omega), tblM_len, tblM_len, w64 (x := minT (ws.drop (i + 1)) (p - z) + (k : Int)) (by omega) (by omega)]
  refine Ev.ite_neg (by omega) (Ev.ite_pos (by omega) (Ev.ite_pos (by omega) (Ev.ite_pos (by omega) (Ev.ite_pos (by omega) ?_))))
  by_cases h0 : minT (ws.drop (i + 1)) (p - z) < 0
  · exact Ev.ite_pos h0 ih'
  · exact Ev.ite_neg h0 (Ev.ite_pos (by omega) (Ev.ite_pos (by omega) (Ev.ite_pos (by omega) (Ev.ite_pos (by omega) (Ev.ite_neg (fun h => hnot ⟨by omega, h⟩) ih')))))
theorem spec0 (l : List S68) (a2 : Int) (ws : List (Nat × Nat)) (N : Nat) (al : Int) (hN : N ≤ 100000) (hF : fineW ws) (hg : goodL a2 l ws) :
  ∀ d i p (out : List Int), i + d = ws.length → p ≤ N → out.length = i → 0 ≤ minT (ws.drop i) p →
   Ev (fun k => spec_l03Fill.l0 k l a2 (p : Int) (tabM N ws) al out (i : Int)) (out ++ pickT (ws.drop i) p, al, true) := by
 intro d
 have hw := hg.1
 have hF1 := hF.1
 induction d with
 | zero =>
  intro i p out hi hp ho hm
  refine Ev.step (fun n => spec_l03Fill.l0.eq_2 _ _ _ _ _ _ _ _) (Ev.ite_neg (by omega) ?_)
  rw [List.drop_of_length_le (show ws.length ≤ i by omega)]
  exact Ev.eq_ (Ev.now _) (by simp [pickT])
 | succ d ih =>
  intro i p out hi hp ho hm
  have hi' : i < ws.length := by omega
  obtain ⟨w, c, hwc⟩ : ∃ w c, ws[i] = (w, c) := ⟨_, _, rfl⟩
  have g := hg.2 i hi'
  rw [hwc] at g
  have ed : ws.drop i = (w, c) :: ws.drop (i + 1) := by rw [List.drop_eq_getElem_cons hi', hwc]
  have hm' := hm
  rw [ed] at hm
  obtain ⟨q1, q2, q3, q4⟩ := pick_ok hm
  have hpick : pickT ((w, c) :: ws.drop (i + 1)) p = ((pickK (minT (ws.drop (i + 1))) w p (minT ((w, c) :: ws.drop (i + 1)) p) c 0 : Nat) : Int) :: pickT (ws.drop (i + 1)) (p - pickK (minT (ws.drop (i + 1))) w p (minT ((w, c) :: ws.drop (i + 1)) p) c 0 * w) := rfl
  generalize hq : pickK (minT (ws.drop (i + 1))) w p (minT ((w, c) :: ws.drop (i + 1)) p) c 0 = q at *
  refine Ev.step (fun n => spec_l03Fill.l0.eq_2 _ _ _ _ _ _ _ _) (Ev.ite_pos (by omega) (Ev.ite_pos (by omega) ?_))
  rw [g.1]
  refine spec1 l a2 ws N i p w c out al _ hN hF hp hi' hwc g (by omega) q (by rw [ed]; exact hq.symm) q1 q2 q3 (by rw [ed]; exact q4) ?_ q 0 (by omega)
  have h := ih (i + 1) (p - q * w) (out ++ [(q : Int)]) (by omega) (by omega) (by simp [ho]) q3
  rw [List.append_assoc, List.singleton_append] at h
  rw [ed, hpick]
  exact h
theorem specFill (l : List S68) (a1 a2 : Int) (ws : List (Nat × Nat)) (N : Nat) (hN : N ≤ 100000) (hF : fineW ws) (hg : goodL a2 l ws) (hs : wrap64 (a1 + a2) = (N : Int)) : Ev (fun k => spec_l03Fill.f k l a1 a2) (fillR ws N) := by
 have hw := hg.1
 have hF1 := hF.1
 have hlen := tabM_len N ws
 unfold spec_l03Fill.f
 rw [hs]
 refine Ev.bind (table_val l a2 ws N hN (by omega) hg (fun m p => ⟨(minT_bound (hF.drop m) p).1, Int.le_trans (minT_bound (hF.drop m) p).2 (by decide)⟩)) ?_
 have e0 : rd_L4 (tabM N ws) 0 = tblM N (minT ws) := by
  obtain ⟨t, ht⟩ := tabM_cons N ws
  rw [ht]
  rfl
 rw [e0, tblM_len, tblM_get N _ (by omega)]
 refine Ev.ite_pos (by omega) (Ev.ite_pos (by omega) (Ev.ite_pos (by omega) (Ev.call rfl ?_)))
 unfold fillR
 by_cases h0 : minT ws N < 0
 ·
  rw [if_neg (by omega)]
  exact Ev.ite_pos h0 (Ev.now _)
 ·
  rw [if_pos (by omega)]
  exact Ev.ite_neg h0 (spec0 l a2 ws N (minT ws N) hN hF hg ws.length 0 N [] (by omega) (Nat.le_refl _) rfl (Int.not_lt.1 h0))
end Go.Proofs.Ytpbobnpmiafbbaa.Q

namespace Go.Proofs.Ytpbobnpmiafbbaa.Q
open Go.RowKit Go.Proofs.YtpbobnpmiafbbaaW.PrintWords Go.Proofs.YtpbobnpmiafbbaaW.PrintLast Go.Proofs.YtpbobnpmiafbbaaW.PrintMore
set_option linter.unusedVariables false
set_option linter.unusedSimpArgs false
theorem loopV_all {c : Nat → Bool} {z : Bool} : ∀ d i, loopV (fun i (_ : Unit) => c i) (fun _ s => s) (fun _ _ => false) (fun _ => z) d i () = true → z = true ∧ ∀ j, i ≤ j → j < i + d → c j = true
 | 0, i, h => ⟨h, fun j h1 h2 => by omega⟩
 | d + 1, i, h => by
  unfold loopV at h
  by_cases hc : c i = true
  ·
   rw [if_pos hc] at h
   obtain ⟨h1, h2⟩ := loopV_all d (i + 1) h
   refine ⟨h1, fun j h3 h4 => ?_⟩
   by_cases h5 : j = i
   · rw [h5]; exact hc
   · exact h2 j (by omega) (by omega)
  ·
   rw [if_neg hc] at h
   cases h
theorem setts_good {l : List S68} (h : settsB l = true) (a2 : Int) (h0 : 0 ≤ a2) (h5 : a2 ≤ 5) : l.length ≤ 6 ∧ goodL a2 l (l.map (wOf a2)) ∧ True := by
 obtain ⟨h1, h2⟩ := loopV_all l.length 0 h
 have hn := (inB_iff.1 h1).2
 have key : ∀ i (hi : i < (l.map (wOf a2)).length), goodS a2 (rd_T68 l (i : Int)) (l.map (wOf a2))[i].1 (l.map (wOf a2))[i].2 := by
  intro i hi
  have hi' : i < l.length := by simpa using hi
  have hc := h2 i (by omega) (by omega)
  unfold settC at hc
  rw [Bool.and_eq_true, Bool.and_eq_true] at hc
  obtain ⟨⟨c1, c2⟩, -⟩ := hc
  obtain ⟨w1, w2⟩ := inB_iff.1 c1
  obtain ⟨n1, n2⟩ := inB_iff.1 c2
  rw [List.getElem_map, ← rdIT_get hi']
  refine ⟨?_, ?_, ?_, ?_, ?_⟩
  ·
   show wrap64 (wrap64 (rd_T68 l (i : Int)).f0 + a2) = ((wrap64 (rd_T68 l (i : Int)).f0 + a2).toNat : Int)
   rw [w64 (by omega) (by omega)]
   omega
  ·
   show wrap64 (rd_T68 l (i : Int)).f1 = ((wrap64 (rd_T68 l (i : Int)).f1).toNat : Int)
   omega
  ·
   show 1 ≤ (wrap64 (rd_T68 l (i : Int)).f0 + a2).toNat
   omega
  ·
   show (wrap64 (rd_T68 l (i : Int)).f0 + a2).toNat ≤ 1000
   omega
  ·
   show (wrap64 (rd_T68 l (i : Int)).f1).toNat ≤ 1000
   omega
 exact ⟨by omega, ⟨by simp, key⟩, trivial⟩
theorem asked_val (l : List S68) (b : Bool) (h : l.length ≤ 1048576) : Ev (fun k => spec_l03Asked.f k l b) (if settsB l = true then (if b = true then 0 else 2) else 1) := by
 unfold spec_l03Asked.f
 refine Ev.bind (specSetts l h) ?_
 refine Ev.if_ (fun hc => Ev.ite_pos hc ?_) (fun hc => Ev.ite_neg hc (Ev.now _))
 exact Ev.if_ (fun hc => Ev.ite_pos hc (Ev.now _)) (fun hc => Ev.ite_neg hc (Ev.now _))
theorem long_val (a : Int) : spec_l03Long.f a = some (inB a 1 400) := by
 unfold spec_l03Long.f
 rw [l00In_val]
 rfl
theorem joint_val (a : Int) : spec_l03Joint.f a = some (inB a 0 5) := by
 unfold spec_l03Joint.f
 rw [l00In_val]
 rfl
end Go.Proofs.Ytpbobnpmiafbbaa.Q

namespace Go.Proofs.Ytpbobnpmiafbbaa.Q
open Go.RowKit Go.Proofs.YtpbobnpmiafbbaaW.PrintWords Go.Proofs.YtpbobnpmiafbbaaW.PrintLast Go.Proofs.YtpbobnpmiafbbaaW.PrintMore
set_option linter.unusedVariables false
set_option linter.unusedSimpArgs false
def goodE (s : S68) : Prop := 1 ≤ s.f0 ∧ s.f0 ≤ 20 ∧ 0 ≤ s.f1 ∧ s.f1 ≤ 60
theorem wOf_good {a2 : Int} (h0 : 0 ≤ a2) (h5 : a2 ≤ 5) {s : S68} (h : goodE s) : goodS a2 s (wOf a2 s).1 (wOf a2 s).2 ∧ (wOf a2 s).2 ≤ 60 ∧ (((wOf a2 s).2 : Nat) : Int) = s.f1 := by
 obtain ⟨h1, h2, h3, h4⟩ := h
 have e0 : wrap64 s.f0 = s.f0 := w64 (by omega) (by omega)
 have e1 : wrap64 s.f1 = s.f1 := w64 (by omega) (by omega)
 unfold wOf goodS
 rw [e0, e1, w64 (x := s.f0 + a2) (by omega) (by omega)]
 dsimp only
 omega
theorem good_fine {a2 : Int} (h0 : 0 ≤ a2) (h5 : a2 ≤ 5) {l : List S68} (hl : ∀ s ∈ l, goodE s) (h6 : l.length ≤ 6) : fineW (l.map (wOf a2)) ∧ goodL a2 l (l.map (wOf a2)) := by
 refine ⟨⟨by simpa using h6, fun x hx => ?_⟩, by simp, fun i hi => ?_⟩
 ·
  obtain ⟨s, hs, rfl⟩ := List.mem_map.1 hx
  exact (wOf_good h0 h5 (hl s hs)).2.1
 ·
  have hi' : i < l.length := by simpa using hi
  rw [List.getElem_map, rdIT_get hi']
  exact (wOf_good h0 h5 (hl _ (List.getElem_mem _))).1
theorem setts_goodE {l : List S68} (h : settsB l = true) (hw : ∀ s ∈ l, wrap64 s.f0 = s.f0 ∧ wrap64 s.f1 = s.f1) : ∀ s ∈ l, goodE s := by
 obtain ⟨h1, h2⟩ := loopV_all l.length 0 h
 intro s hs
 obtain ⟨e0, e1⟩ := hw s hs
 obtain ⟨i, hi, rfl⟩ := List.getElem_of_mem hs
 have hc := h2 i (by omega) (by omega)
 unfold settC at hc
 rw [Bool.and_eq_true, Bool.and_eq_true] at hc
 obtain ⟨⟨c1, c2⟩, -⟩ := hc
 obtain ⟨w1, w2⟩ := inB_iff.1 c1
 obtain ⟨n1, n2⟩ := inB_iff.1 c2
 rw [rdIT_get hi] at w1 w2 n1 n2
 rw [e0] at w1 w2
 rw [e1] at n1 n2
 exact ⟨w1, w2, n1, n2⟩
theorem wf_wrap {k : IntKind} {x : Int} (hk : k = .i8 ∨ k = .i16) (h : (Lit.int k x).wf = true) : wrap64 x = x := by
 have h2 : k.min ≤ x ∧ x ≤ k.max := by simpa [Lit.wf] using h
 rcases hk with rfl | rfl
 ·
  have e0 : IntKind.i8.min = -128 := rfl
  have e1 : IntKind.i8.max = 127 := rfl
  exact w64 (by omega) (by omega)
 ·
  have e0 : IntKind.i16.min = -32768 := rfl
  have e1 : IntKind.i16.max = 32767 := rfl
  exact w64 (by omega) (by omega)
end Go.Proofs.Ytpbobnpmiafbbaa.Q

namespace Go.Proofs.Ytpbobnpmiafbbaa.Q
open Go.RowKit Go.Proofs.YtpbobnpmiafbbaaW.PrintWords Go.Proofs.YtpbobnpmiafbbaaW.PrintLast Go.Proofs.YtpbobnpmiafbbaaW.PrintMore
theorem toInts (l : List Int) (h : l.length ≤ 35184372088832) : Ev (fun k => laws_toInt64S.f k l) l := by
 unfold laws_toInt64S.f
 refine Ev.ite_pos (ge0 _) (Ev.ite_pos (by simpa using h) ?_)
 refine Ev.run (L := fun k s (i : Nat) => laws_toInt64S.l0 k l s i) l.length (fun i s => s.set i (rd l (i : Int))) (fun i s => s.length = l.length ∧ s.take i = l.take i) l ?_ ?_ (d := l.length) (i := 0) (by omega) ⟨by simp, by simp⟩
 ·
  rintro i s hi ⟨h1, h2⟩
  refine ⟨⟨by simpa using h1, ?_⟩, fun r hr => Ev.step (fun k => laws_toInt64S.l0.eq_2 _ _ _ _) ?_⟩
  ·
   show (s.set i (rd l (i : Int))).take (i + 1) = _
   rw [rd_get hi]
   exact take_set_succ h1 hi h2
  ·
   refine Ev.ite_pos (by omega) (Ev.ite_pos (ge0 _) (Ev.ite_pos (by omega) ?_))
   rw [w64_succ (by omega), Int.toNat_natCast]
   exact hr
 ·
  rintro s ⟨h1, h2⟩
  refine Ev.step (fun k => laws_toInt64S.l0.eq_2 _ _ _ _) (Ev.ite_neg (by omega) ?_)
  rw [List.take_of_length_le (by omega), List.take_of_length_le (Nat.le_refl _)] at h2
  rw [h2]
  exact Ev.now l
theorem eqInts (l : List Int) (h : l.length ≤ 4611686018427387904) : Ev (fun k => laws_eqInt64S.f k l l) true := by
 unfold laws_eqInt64S.f
 refine Ev.ite_pos rfl ?_
 refine Ev.run (L := fun k (_ : Unit) (i : Nat) => laws_eqInt64S.l0 k l l i) l.length (fun _ s => s) (fun _ _ => True) true ?_ ?_ (d := l.length) (i := 0) (s := ()) (by omega) trivial
 ·
  rintro i s hi _
  refine ⟨trivial, fun r hr => Ev.step (fun k => laws_eqInt64S.l0.eq_2 _ _ _ _) ?_⟩
  refine Ev.ite_pos (by omega) (Ev.ite_pos (ge0 _) (Ev.ite_pos (by omega) (Ev.ite_pos rfl ?_)))
  rw [w64_succ (by omega)]
  exact hr
 ·
  intro s _
  exact Ev.step (fun k => laws_eqInt64S.l0.eq_2 _ _ _ _) (Ev.ite_neg (by omega) (Ev.now true))
end Go.Proofs.Ytpbobnpmiafbbaa.Q

namespace Go.Proofs.Ytpbobnpmiafbbaa.Q
open Go.RowKit Go.Proofs.YtpbobnpmiafbbaaW.PrintWords Go.Proofs.YtpbobnpmiafbbaaW.PrintLast Go.Proofs.YtpbobnpmiafbbaaW.PrintMore
set_option linter.unusedVariables false
set_option linter.unusedSimpArgs false
def Pure.FnExactFewestSorts : Prop := ∀ (x0 : List (S70)) (x1 : List Int) (x2 : Int), (x0.length ≤ maxLen ∧ ∀ z_ ∈ x0, wf70 z_) → (x1.length ≤ maxLen ∧ ∀ z_ ∈ x1, (Lit.int .i64 z_).wf = true) → (Lit.int .i64 x2).wf = true → ∃ k, laws_FnExactFewestSorts.f k x0 x1 x2 = some true
def bitB (s i : Int) : Bool := decide (Go.bits .and .i64 (shr .i64 s i) 1 = 1)
def ownTo (l : List S68) (s : Int) : Nat → List S68
  | 0 => []
  | n + 1 => if bitB s (n : Int) = true then ownTo l s n ++ [rd_T68 l (n : Int)] else ownTo l s n
theorem ownTo_len (l : List S68) (s : Int) : ∀ n, (ownTo l s n).length ≤ n
  | 0 => Nat.le_refl _
  | n + 1 => by
    have h := ownTo_len l s n
    unfold ownTo
    split
    · simp; omega
    · omega
theorem ownTo_good {l : List S68} (hl : ∀ s ∈ l, goodE s) (s : Int) : ∀ n, n ≤ l.length → ∀ x ∈ ownTo l s n, goodE x
  | 0, _, x, hx => by simp [ownTo] at hx
  | n + 1, hn, x, hx => by
    unfold ownTo at hx
    split at hx
    · rcases List.mem_append.1 hx with h | h
      · exact ownTo_good hl s n (by omega) x h
      · obtain rfl := List.mem_singleton.1 h
        rw [rdIT_get (by omega)]
        exact hl _ (List.getElem_mem _)
    · exact ownTo_good hl s n (by omega) x hx
def okL (a2 : Int) (own : List S68) (L : Int) : Bool := (fillR (own.map (wOf a2)) (L + a2).toNat).2.2
def stepF (l : List S68) (ls : List Int) (a2 x b : Int) : Int := if (decide (b ≥ 0) && decide (((ownTo l x l.length).length : Int) ≥ b)) = true then b else if ls.all (okL a2 (ownTo l x l.length)) = true then ((ownTo l x l.length).length : Int) else b
def bestF (l : List S68) (ls : List Int) (a2 S : Int) : Nat → Int → Int → Int
  | 0, _, b => b
  | d + 1, x, b => bestF l ls a2 S d (x + 1) (stepF l ls a2 x b)
def bestR (b : Int) : Int × Int := if b < 0 then (0, 6) else (b, 0)
theorem shl_le (n : Int) : shl .i64 1 n ≤ 9223372036854775807 := by
  unfold shl
  generalize (1 : Int) * 2 ^ min n.toNat IntKind.i64.bits = z
  rw [IntKind.wrap_i64]
  omega
theorem okL_ev (a2 : Int) (h0 : 0 ≤ a2) (h5 : a2 ≤ 5) {own : List S68} (hg : ∀ s ∈ own, goodE s) (h6 : own.length ≤ 6) (L : Int) (hL : inB L 1 400 = true) :
    Ev (fun k => impl_fill.f k own L a2) (fillR (own.map (wOf a2)) (L + a2).toNat) ∧ Ev (fun k => spec_l03Fill.f k own L a2) (fillR (own.map (wOf a2)) (L + a2).toNat) := by
  obtain ⟨hF, hG⟩ := good_fine h0 h5 hg h6
  obtain ⟨l1, l2⟩ := inB_iff.1 hL
  have hs : wrap64 (L + a2) = (((L + a2).toNat : Nat) : Int) := by rw [w64 (by omega) (by omega)]; omega
  exact ⟨implFill own L a2 _ _ (by omega) hF hG hs, specFill own L a2 _ _ (by omega) hF hG hs⟩
theorem few2_val (a2 : Int) (h0 : 0 ≤ a2) (h5 : a2 ≤ 5) {own : List S68} (hg : ∀ s ∈ own, goodE s) (h6 : own.length ≤ 6) (L : Int) (hL : inB L 1 400 = true) : Ev (fun k => impl_FewestSorts_2.f k L [own] [a2]) (!okL a2 own L) := by
  unfold impl_FewestSorts_2.f
  exact Ev.ite_pos (by simp) (Ev.ite_pos (by simp) (Ev.bind (okL_ev a2 h0 h5 hg h6 L hL).1 (Ev.now _)))
theorem any2_val (a2 : Int) (h0 : 0 ≤ a2) (h5 : a2 ≤ 5) {own : List S68} (hg : ∀ s ∈ own, goodE s) (h6 : own.length ≤ 6) (ls : List Int) (hls : ls.length ≤ 8) (hL : ∀ L ∈ ls, inB L 1 400 = true) :
    Ev (fun k => slices_ContainsFunc_int64_int64_at_impl_FewestSorts_2.f k ls [own] [a2]) (ls.any fun L => !okL a2 own L) := by
  unfold slices_ContainsFunc_int64_int64_at_impl_FewestSorts_2.f
  refine Ev.bind (a := findFrom (fun L => !okL a2 own L) 0 ls) ?_ (Ev.eq_ (Ev.now _) (findFrom_ge _ ls 0))
  unfold slices_IndexFunc_int64_int64_at_impl_FewestSorts_2.f
  have one : ∀ i (h : i < ls.length), Ev (fun k => impl_FewestSorts_2.f k (rd ls (i : Int)) [own] [a2]) (!okL a2 own ls[i]) := by
    intro i h
    rw [rd_get h]
    exact few2_val a2 h0 h5 hg h6 _ (hL _ (List.getElem_mem h))
  refine Ev.find (L := fun k i => slices_IndexFunc_int64_int64_at_impl_FewestSorts_2.l0 k ls (ls.length : Int) (i : Int) [own] [a2]) ls (fun L => !okL a2 own L) ?_ ?_ ?_
  · intro i hi hp r hr
    refine Ev.step (fun k => slices_IndexFunc_int64_int64_at_impl_FewestSorts_2.l0.eq_2 _ _ _ _ _ _) (Ev.ite_pos (by omega) (Ev.ite_pos (by omega) (Ev.ite_pos (by omega) (Ev.bind (one i hi) ?_))))
    rw [w64_succ (by omega), hp]
    exact Ev.ite_neg (by decide) hr
  · intro i hi hp
    refine Ev.step (fun k => slices_IndexFunc_int64_int64_at_impl_FewestSorts_2.l0.eq_2 _ _ _ _ _ _) (Ev.ite_pos (by omega) (Ev.ite_pos (by omega) (Ev.ite_pos (by omega) (Ev.bind (one i hi) ?_))))
    rw [hp]
    exact Ev.ite_pos rfl (Ev.now _)
  · exact Ev.step (fun k => slices_IndexFunc_int64_int64_at_impl_FewestSorts_2.l0.eq_2 _ _ _ _ _ _) (Ev.ite_neg (by omega) (Ev.now _))
theorem any1_val (ls : List Int) (hls : ls.length ≤ 1048576) : Ev (fun k => slices_ContainsFunc_int64_int64_at_impl_FewestSorts_1.f k ls) (ls.any fun L => !inB L 1 400) := by
  unfold slices_ContainsFunc_int64_int64_at_impl_FewestSorts_1.f
  refine Ev.bind (a := findFrom (fun L => !inB L 1 400) 0 ls) ?_ (Ev.eq_ (Ev.now _) (findFrom_ge _ ls 0))
  unfold slices_IndexFunc_int64_int64_at_impl_FewestSorts_1.f
  have one : ∀ i (h : i < ls.length), impl_FewestSorts_1.f (rd ls (i : Int)) = some (!inB ls[i] 1 400) := by
    intro i h
    rw [rd_get h]
    unfold impl_FewestSorts_1.f
    rw [within_val]
    rfl
  refine Ev.find (L := fun k i => slices_IndexFunc_int64_int64_at_impl_FewestSorts_1.l0 k ls (ls.length : Int) (i : Int)) ls (fun L => !inB L 1 400) ?_ ?_ ?_
  · intro i hi hp r hr
    refine Ev.step (fun k => slices_IndexFunc_int64_int64_at_impl_FewestSorts_1.l0.eq_2 _ _ _ _) (Ev.ite_pos (by omega) (Ev.ite_pos (by omega) (Ev.ite_pos (by omega) (Ev.call (one i hi) ?_))))
    rw [w64_succ (by omega), hp]
    exact Ev.ite_neg (by decide) hr
  · intro i hi hp
    refine Ev.step (fun k => slices_IndexFunc_int64_int64_at_impl_FewestSorts_1.l0.eq_2 _ _ _ _) (Ev.ite_pos (by omega) (Ev.ite_pos (by omega) (Ev.ite_pos (by omega) (Ev.call (one i hi) ?_))))
    rw [hp]
    exact Ev.ite_pos rfl (Ev.now _)
  · exact Ev.step (fun k => slices_IndexFunc_int64_int64_at_impl_FewestSorts_1.l0.eq_2 _ _ _ _) (Ev.ite_neg (by omega) (Ev.now _))
theorem eta_tt (s : S68) : (⟨s.f0, s.f1⟩ : S68) = s := rfl
theorem implInner (l : List S68) (ls : List Int) (a2 S b x : Int) (hl : l.length ≤ 6) (r : Int × Int) (h : Ev (fun k => impl_FewestSorts.j3 k l ls b S x (decide (b ≥ 0) && decide (((ownTo l x l.length).length : Int) ≥ b)) a2 (ownTo l x l.length)) r) :
    Ev (fun k => impl_FewestSorts.l1 k l ls b x S x l (l.length : Int) 0 a2 []) r := by
  have key : ∀ (d i : Nat), i + d = l.length → Ev (fun k => impl_FewestSorts.l1 k l ls b x S x l (l.length : Int) (i : Int) a2 (ownTo l x i)) r := by
    intro d
    induction d with
    | zero =>
      intro i hi
      obtain rfl : i = l.length := by omega
      refine Ev.step (fun k => impl_FewestSorts.l1.eq_2 _ _ _ _ _ _ _ _ _ _ _ _) (Ev.ite_neg (by omega) ?_)
      by_cases hb : b ≥ 0
      · rw [decide_eq_true hb, Bool.true_and] at h
        exact Ev.ite_pos hb (Ev.call rfl h)
      · rw [decide_eq_false hb, Bool.false_and] at h
        exact Ev.ite_neg hb h
    | succ d ih =>
      intro i hi
      refine Ev.step (fun k => impl_FewestSorts.l1.eq_2 _ _ _ _ _ _ _ _ _ _ _ _) (Ev.ite_pos (by omega) (Ev.ite_pos (by omega) (Ev.ite_pos (by omega) ?_)))
      have h1 := ih (i + 1) (by omega)
      have hlen := ownTo_len l x i
      rw [w64_succ (by omega)]
      unfold ownTo at h1
      by_cases hb : bitB x (i : Int) = true
      · rw [if_pos hb] at h1
        exact Ev.ite_pos (of_decide_eq_true hb) (Ev.ite_pos (by omega) h1)
      · rw [if_neg hb] at h1
        exact Ev.ite_neg (fun e => hb (decide_eq_true e)) h1
  exact key l.length 0 (by omega)
theorem implSets (l : List S68) (ls : List Int) (a2 S : Int) (h0 : 0 ≤ a2) (h5 : a2 ≤ 5) (hl : l.length ≤ 6) (hg : ∀ s ∈ l, goodE s) (hls : ls.length ≤ 8) (hL : ∀ L ∈ ls, inB L 1 400 = true) (hS : S ≤ 9223372036854775807) :
    ∀ (d : Nat) (x b : Int), 0 ≤ x → (S - x).toNat = d → Ev (fun k => impl_FewestSorts.l0 k l ls b S x a2) (bestR (bestF l ls a2 S d x b)) := by
  intro d
  induction d with
  | zero =>
    intro x b hx hd
    refine Ev.step (fun k => impl_FewestSorts.l0.eq_2 _ _ _ _ _ _ _) (Ev.ite_neg (by omega) ?_)
    unfold bestF bestR
    by_cases hb : b < 0
    · simp only [if_pos hb]; exact Ev.now _
    · simp only [if_neg hb]; exact Ev.now _
  | succ d ih =>
    intro x b hx hd
    refine Ev.step (fun k => impl_FewestSorts.l0.eq_2 _ _ _ _ _ _ _) (Ev.ite_pos (by omega) (implInner l ls a2 S b x hl _ ?_))
    have hlen := ownTo_len l x l.length
    have ho := ownTo_good hg x l.length (Nat.le_refl _)
    have hn := fun b' => ih (x + 1) b' (by omega) (by omega)
    have ew : wrap64 (x + 1) = x + 1 := w64 (by omega) (by omega)
    refine Ev.step (fun k => impl_FewestSorts.j3.eq_2 _ _ _ _ _ _ _ _ _) ?_
    rw [ew]
    unfold bestF stepF
    by_cases hc : (decide (b ≥ 0) && decide (((ownTo l x l.length).length : Int) ≥ b)) = true
    · rw [if_pos hc]
      exact Ev.ite_pos hc (hn _)
    · rw [if_neg hc]
      refine Ev.ite_neg hc (Ev.bind (any2_val a2 h0 h5 ho (by omega) ls hls hL) ?_)
      rw [any_not]
      by_cases ha : ls.all (okL a2 (ownTo l x l.length)) = true
      · rw [if_pos ha, ha]
        exact Ev.ite_neg (by decide) (Ev.call rfl (hn _))
      · rw [if_neg ha, show ls.all (okL a2 (ownTo l x l.length)) = false by simpa using ha]
        exact Ev.ite_pos rfl (hn _)
def fewR (l : List S68) (ls : List Int) (a2 : Int) : Int × Int := if settsB l = true then (if (inB a2 0 5 && ls.all (inB · 1 400)) = true then (if (ls.length : Int) > 8 then (0, 3) else bestR (bestF l ls a2 (shl .i64 1 (l.length : Int)) (shl .i64 1 (l.length : Int)).toNat 0 (-1))) else (0, 2)) else (0, 1)
theorem implFew (l : List S68) (ls : List Int) (a2 : Int) (h : l.length ≤ 1048576) (h2 : ls.length ≤ 1048576) (hw : ∀ s ∈ l, wrap64 s.f0 = s.f0 ∧ wrap64 s.f1 = s.f1) : Ev (fun k => impl_FewestSorts.f k l ls a2) (fewR l ls a2) := by
  unfold impl_FewestSorts.f fewR
  refine Ev.bind (implSetts l h) ?_
  by_cases hs : settsB l = true
  · rw [if_pos hs]
    refine Ev.ite_pos hs (Ev.call (within_val a2 0 5) ?_)
    by_cases hj : inB a2 0 5 = true
    · refine Ev.ite_pos hj (Ev.bind (any1_val ls h2) ?_)
      refine Ev.step (fun k => impl_FewestSorts.j0.eq_2 _ _ _ _ _) ?_
      rw [any_not, hj, Bool.true_and]
      by_cases ha : ls.all (inB · 1 400) = true
      · rw [if_pos ha, show ls.all (fun L => inB L 1 400) = true from ha]
        refine Ev.ite_neg (by decide) ?_
        by_cases h8 : (ls.length : Int) > 8
        · rw [if_pos h8]; exact Ev.ite_pos h8 (Ev.now _)
        · rw [if_neg h8]
          obtain ⟨j0, j5⟩ := inB_iff.1 hj
          exact Ev.ite_neg h8 (implSets l ls a2 _ j0 j5 (setts_good hs a2 j0 j5).1 (setts_goodE hs hw) (by omega) (fun L hL => List.all_eq_true.1 ha L hL) (shl_le _) _ 0 (-1) (by omega) (by rw [Int.sub_zero]))
      · rw [if_neg ha, show ls.all (fun L => inB L 1 400) = false by simpa using ha]
        exact Ev.ite_pos rfl (Ev.now _)
    · refine Ev.ite_neg hj (Ev.step (fun k => impl_FewestSorts.j0.eq_2 _ _ _ _ _) (Ev.ite_pos rfl ?_))
      rw [if_neg (by rw [show inB a2 0 5 = false by simpa using hj, Bool.false_and]; decide)]
      exact Ev.now _
  · rw [if_neg hs]
    exact Ev.ite_neg hs (Ev.now _)
theorem u64w (n : Nat) (h : n ≤ 1048576) : IntKind.u64.wrap (n : Int) = (n : Int) := by
  simp [IntKind.wrap, IntKind.bits, IntKind.signed]
  omega
theorem specSorts (l : List S68) (x : Int) (hl : l.length ≤ 6) : Ev (fun k => spec_l03Sorts.f k l x) (ownTo l x l.length) := by
  unfold spec_l03Sorts.f
  have key : ∀ (d i : Nat), i + d = l.length → Ev (fun k => spec_l03Sorts.l0 k l x (ownTo l x i) (i : Int)) (ownTo l x l.length) := by
    intro d
    induction d with
    | zero =>
      intro i hi
      obtain rfl : i = l.length := by omega
      exact Ev.step (fun k => spec_l03Sorts.l0.eq_2 _ _ _ _ _) (Ev.ite_neg (by omega) (Ev.now _))
    | succ d ih =>
      intro i hi
      refine Ev.step (fun k => spec_l03Sorts.l0.eq_2 _ _ _ _ _) ?_
      have h1 := ih (i + 1) (by omega)
      have hlen := ownTo_len l x i
      rw [w64_succ (by omega), u64w i (by omega)]
      refine Ev.ite_pos (by omega) (Ev.ite_pos (by omega) ?_)
      rw [show ownTo l x (i + 1) = if bitB x (i : Int) = true then ownTo l x i ++ [rd_T68 l (i : Int)] else ownTo l x i from rfl] at h1
      by_cases hb : bitB x (i : Int) = true
      · rw [if_pos hb] at h1
        exact Ev.ite_pos (of_decide_eq_true hb) (Ev.ite_pos (by omega) (Ev.ite_pos (by omega) h1))
      · rw [if_neg hb] at h1
        exact Ev.ite_neg (fun e => hb (decide_eq_true e)) h1
  exact key l.length 0 (by omega)
theorem specAll (l : List S68) (ls : List Int) (a2 b x : Int) (own : List S68) (h0 : 0 ≤ a2) (h5 : a2 ≤ 5) (hg : ∀ s ∈ own, goodE s) (h6 : own.length ≤ 6) (hls : ls.length ≤ 8) (hL : ∀ L ∈ ls, inB L 1 400 = true) (r : Int × Int)
    (hyes : ls.all (okL a2 own) = true → Ev (fun k => spec_FewestSorts.l1 k l ls a2 (own.length : Int) (wrap64 (x + 1))) r) (hno : ls.all (okL a2 own) = false → Ev (fun k => spec_FewestSorts.l1 k l ls a2 b (wrap64 (x + 1))) r) :
    Ev (fun k => spec_FewestSorts.l2 k l ls a2 b x own (own.length : Int) true 0) r := by
  have key : ∀ (d i : Nat), i + d = ls.length → ls.all (okL a2 own) = (ls.drop i).all (okL a2 own) → Ev (fun k => spec_FewestSorts.l2 k l ls a2 b x own (own.length : Int) true (i : Int)) r := by
    intro d
    induction d with
    | zero =>
      intro i hi he
      refine Ev.step (fun k => spec_FewestSorts.l2.eq_2 _ _ _ _ _ _ _ _ _ _) (Ev.ite_neg (by omega) (Ev.ite_pos rfl (hyes ?_)))
      rw [he, List.drop_eq_nil_of_le (by omega)]
      rfl
    | succ d ih =>
      intro i hi he
      have hlt : i < ls.length := by omega
      refine Ev.step (fun k => spec_FewestSorts.l2.eq_2 _ _ _ _ _ _ _ _ _ _) (Ev.ite_pos (by omega) (Ev.ite_pos rfl (Ev.ite_pos (by omega) ?_)))
      rw [rd_get hlt, w64_succ (i := i) (by omega)]
      refine Ev.bind (okL_ev a2 h0 h5 hg h6 ls[i] (hL _ (List.getElem_mem hlt))).2 ?_
      rw [List.drop_eq_getElem_cons hlt, List.all_cons] at he
      by_cases hk : okL a2 own ls[i] = true
      · rw [show (fillR (own.map (wOf a2)) (ls[i] + a2).toNat).2.2 = true from hk]
        rw [hk, Bool.true_and] at he
        exact ih (i + 1) (by omega) he
      · have hk' : okL a2 own ls[i] = false := by simpa using hk
        rw [show (fillR (own.map (wOf a2)) (ls[i] + a2).toNat).2.2 = false from hk']
        rw [hk', Bool.false_and] at he
        refine Ev.step (fun k => spec_FewestSorts.l2.eq_2 _ _ _ _ _ _ _ _ _ _) ?_
        by_cases hc : ((i + 1 : Nat) : Int) < (ls.length : Int)
        · exact Ev.ite_pos hc (Ev.ite_neg (by decide) (hno he))
        · exact Ev.ite_neg hc (Ev.ite_neg (by decide) (hno he))
  exact key ls.length 0 (by omega) (by rw [List.drop_zero])
theorem specSets (l : List S68) (ls : List Int) (a2 : Int) (h0 : 0 ≤ a2) (h5 : a2 ≤ 5) (hl : l.length ≤ 6) (hg : ∀ s ∈ l, goodE s) (hls : ls.length ≤ 8) (hL : ∀ L ∈ ls, inB L 1 400 = true) :
    ∀ (d : Nat) (x b : Int), 0 ≤ x → (shl .i64 1 (l.length : Int) - x).toNat = d → Ev (fun k => spec_FewestSorts.l1 k l ls a2 b x) (bestR (bestF l ls a2 (shl .i64 1 (l.length : Int)) d x b)) := by
  have hS := shl_le (l.length : Int)
  intro d
  induction d with
  | zero =>
    intro x b hx hd
    refine Ev.step (fun k => spec_FewestSorts.l1.eq_2 _ _ _ _ _ _) ?_
    rw [u64w _ (by omega)]
    refine Ev.ite_pos (by omega) (Ev.ite_neg (by omega) ?_)
    unfold bestF bestR
    by_cases hb : b < 0
    · simp only [if_pos hb]; exact Ev.now _
    · simp only [if_neg hb]; exact Ev.now _
  | succ d ih =>
    intro x b hx hd
    refine Ev.step (fun k => spec_FewestSorts.l1.eq_2 _ _ _ _ _ _) ?_
    rw [u64w _ (by omega)]
    refine Ev.ite_pos (by omega) (Ev.ite_pos (by omega) (Ev.bind (specSorts l x hl) ?_))
    have hlen := ownTo_len l x l.length
    have ho := ownTo_good hg x l.length (Nat.le_refl _)
    have ew : wrap64 (x + 1) = x + 1 := w64 (by omega) (by omega)
    have hn := fun b' => ih (x + 1) b' (by omega) (by omega)
    rw [← ew] at hn
    have cont : ∀ c : Bool, c = (decide (b ≥ 0) && decide (((ownTo l x l.length).length : Int) ≥ b)) → Ev (fun k => spec_FewestSorts.j4 k l ls a2 b x (ownTo l x l.length) ((ownTo l x l.length).length : Int) c) (bestR (bestF l ls a2 (shl .i64 1 (l.length : Int)) d (wrap64 (x + 1)) (stepF l ls a2 x b))) := by
      intro c hc
      refine Ev.step (fun k => spec_FewestSorts.j4.eq_2 _ _ _ _ _ _ _ _ _) ?_
      unfold stepF
      rw [← hc]
      by_cases h : c = true
      · rw [if_pos h]; exact Ev.ite_pos h (hn _)
      · rw [if_neg h]
        refine Ev.ite_neg h (specAll l ls a2 b x _ h0 h5 ho (by omega) hls hL _ (fun ha => ?_) (fun ha => ?_))
        · rw [if_pos ha]; exact hn _
        · rw [if_neg (by rw [ha]; decide)]; exact hn _
    unfold bestF
    rw [ew] at cont
    by_cases hb : b ≥ 0
    · exact Ev.ite_pos hb (cont _ (by rw [decide_eq_true hb, Bool.true_and]))
    · exact Ev.ite_neg hb (cont _ (by rw [decide_eq_false hb, Bool.false_and]))
theorem specFew (l : List S68) (ls : List Int) (a2 : Int) (h : l.length ≤ 1048576) (h2 : ls.length ≤ 1048576) (hw : ∀ s ∈ l, wrap64 s.f0 = s.f0 ∧ wrap64 s.f1 = s.f1) : Ev (fun k => spec_FewestSorts.f k l ls a2) (fewR l ls a2) := by
  unfold spec_FewestSorts.f
  refine Ev.call (joint_val a2) ?_
  have key : ∀ (d i : Nat) (c : Bool), i + d = ls.length → (inB a2 0 5 && ls.all (inB · 1 400)) = (c && (ls.drop i).all (inB · 1 400)) → Ev (fun k => spec_FewestSorts.l0 k l ls a2 c (i : Int)) (fewR l ls a2) := by
    intro d
    induction d with
    | zero =>
      intro i c hi he
      refine Ev.step (fun k => spec_FewestSorts.l0.eq_2 _ _ _ _ _ _) (Ev.ite_neg (by omega) (Ev.bind (asked_val l c h) ?_))
      rw [List.drop_eq_nil_of_le (by omega), List.all_nil, Bool.and_true] at he
      unfold fewR
      rw [he]
      by_cases hs : settsB l = true
      · rw [if_pos hs, if_pos hs]
        by_cases hc : c = true
        · rw [if_pos hc, if_pos hc]
          rw [hc, Bool.and_eq_true] at he
          obtain ⟨j0, j5⟩ := inB_iff.1 he.1
          by_cases h8 : (ls.length : Int) > 8
          · rw [if_pos h8, decide_eq_true h8]
            exact Ev.ite_pos rfl (Ev.step (fun k => spec_FewestSorts.j1.eq_2 _ _ _ _ _ _) (Ev.ite_pos rfl (Ev.step (fun k => spec_FewestSorts.j2.eq_2 _ _ _ _ _) (Ev.ite_neg (by decide) (Ev.now _)))))
          · rw [if_neg h8, decide_eq_false h8]
            exact Ev.ite_pos rfl (Ev.step (fun k => spec_FewestSorts.j1.eq_2 _ _ _ _ _ _) (Ev.ite_neg (by decide) (Ev.step (fun k => spec_FewestSorts.j2.eq_2 _ _ _ _ _) (Ev.ite_pos rfl (specSets l ls a2 j0 j5 (setts_good hs a2 j0 j5).1 (setts_goodE hs hw) (by omega) (fun L hL => List.all_eq_true.1 he.2 L hL) _ 0 (-1) (by omega) (by rw [Int.sub_zero]))))))
        · rw [if_neg hc, if_neg hc]
          exact Ev.ite_neg (by decide) (Ev.step (fun k => spec_FewestSorts.j1.eq_2 _ _ _ _ _ _) (Ev.ite_neg (by decide) (Ev.step (fun k => spec_FewestSorts.j2.eq_2 _ _ _ _ _) (Ev.ite_neg (by decide) (Ev.now _)))))
      · rw [if_neg hs, if_neg hs]
        exact Ev.ite_neg (by decide) (Ev.step (fun k => spec_FewestSorts.j1.eq_2 _ _ _ _ _ _) (Ev.ite_neg (by decide) (Ev.step (fun k => spec_FewestSorts.j2.eq_2 _ _ _ _ _) (Ev.ite_neg (by decide) (Ev.now _)))))
    | succ d ih =>
      intro i c hi he
      have hlt : i < ls.length := by omega
      refine Ev.step (fun k => spec_FewestSorts.l0.eq_2 _ _ _ _ _ _) (Ev.ite_pos (by omega) ?_)
      rw [List.drop_eq_getElem_cons hlt, List.all_cons, ← Bool.and_assoc] at he
      rw [w64_succ (i := i) (by omega)]
      by_cases hc : c = true
      · rw [hc, Bool.true_and] at he
        refine Ev.ite_pos hc (Ev.ite_pos (by omega) ?_)
        rw [rd_get hlt]
        exact Ev.call (long_val ls[i]) (ih (i + 1) _ (by omega) he)
      · have hc' : c = false := by simpa using hc
        rw [hc', Bool.false_and] at he
        exact Ev.ite_neg hc (ih (i + 1) false (by omega) he)
  exact key ls.length 0 _ (by omega) (by rw [List.drop_zero])
theorem pure_FnExactFewestSorts : Pure.FnExactFewestSorts := by
  rintro l ls a2 ⟨hl, hwf⟩ hls -
  unfold maxLen at hl
  refine Ev.rounds (g := fun k => laws_FnExactFewestSorts.f k l ls a2) ?_
  unfold laws_FnExactFewestSorts.f
  by_cases hc : (ls.length : Int) > 1048576
  · exact Ev.ite_pos hc (Ev.now _)
  refine Ev.ite_neg hc (Ev.call (szSetts l _ hl (by omega) (by omega)) ?_)
  by_cases h : (1048576 : Int) < l.length
  · rw [if_pos h]
    exact Ev.ite_pos (by decide) (Ev.now _)
  · rw [if_neg h]
    have hw : ∀ s ∈ l.map settOf, wrap64 s.f0 = s.f0 ∧ wrap64 s.f1 = s.f1 := by
      intro s hs
      obtain ⟨x, hx, rfl⟩ := List.mem_map.1 hs
      obtain ⟨h1, h2⟩ := hwf x hx
      exact ⟨wf_wrap (.inl rfl) h1, wf_wrap (.inr rfl) h2⟩
    have hS := specFew (l.map settOf) ls a2 (by simp; omega) (by omega) hw
    have hI := implFew (l.map settOf) ls a2 (by simp; omega) (by omega) hw
    generalize fewR (l.map settOf) ls a2 = R at *
    refine Ev.ite_neg (by omega) (Ev.bind (toSetts l (by omega)) (Ev.bind (toInts ls (by omega)) (Ev.bind hS (Ev.bind (toSetts l (by omega)) (Ev.bind (toInts ls (by omega)) (Ev.bind hI (Ev.ite_pos rfl ?_)))))))
    rw [show (R.2 != R.2) = false by simp]
    exact Ev.step (fun k => laws_FnExactFewestSorts.j0.eq_2 _ _ _ _ _ _) (Ev.ite_neg (by decide) (Ev.bind (toSetts l (by omega)) (Ev.bind (eqSetts _ (by simp; omega)) (Ev.ite_pos rfl (Ev.bind (toInts ls (by omega)) (Ev.bind (eqInts ls (by omega)) (Ev.ite_pos rfl (Ev.now _))))))))
end Go.Proofs.Ytpbobnpmiafbbaa.Q

