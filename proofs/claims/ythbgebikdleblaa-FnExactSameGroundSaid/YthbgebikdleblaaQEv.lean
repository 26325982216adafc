/- Plain facts on whole numbers, lists and loops with a number of rounds; no program in them. -/
import Derived.Test.YthbgebikdleblaaQ0
namespace Go.Proofs.Ythbgebikdleblaa.Q
open Go.RowKit Go.Proofs.YthbgebikdleblaaW.PrintWords Go.Proofs.YthbgebikdleblaaW.PrintLast Go.Proofs.YthbgebikdleblaaW.PrintMore

theorem w64 {x : Int} (h0 : -9223372036854775808 ≤ x) (h1 : x ≤ 9223372036854775807) : wrap64 x = x := by
  unfold wrap64
  omega
theorem w64_succ {i : Nat} (h : i ≤ 4611686018427387904) : wrap64 ((i : Int) + 1) = ((i + 1 : Nat) : Int) := by
  rw [w64 (by omega) (by omega)]
  omega
theorem rd_get {l : List Int} {i : Nat} (h : i < l.length) : rd l (i : Int) = l[i] := by
  unfold rd
  rw [Int.toNat_natCast, List.getD_eq_getElem?_getD, List.getElem?_eq_getElem h]
  rfl
theorem ge0 (i : Nat) : (0 : Int) ≤ (i : Int) := Int.natCast_nonneg i
theorem Ev.ite_pos {α : Type} {c : Prop} [Decidable c] {f g : Nat → Option α} {r : α} (hc : c) (h : Ev f r) : Ev (fun k => if c then f k else g k) r := Ev.congr (fun _ => if_pos hc) h
theorem Ev.ite_neg {α : Type} {c : Prop} [Decidable c] {f g : Nat → Option α} {r : α} (hc : ¬ c) (h : Ev g r) : Ev (fun k => if c then f k else g k) r := Ev.congr (fun _ => if_neg hc) h
/-- A call that has no rounds. -/
theorem Ev.call {α β : Type} {o : Option α} {f : Nat → α → Option β} {a : α} {r : β} (h : o = some a) (k : Ev (fun n => f n a) r) : Ev (fun n => o.bind (f n)) r := Ev.bind (g := fun _ => o) ⟨0, fun _ _ => h⟩ k
theorem Ev.const {α : Type} {o : Option α} {r : α} (h : o = some r) : Ev (fun _ => o) r := ⟨0, fun _ _ => h⟩
theorem Ev.eq_ {α : Type} {g : Nat → Option α} {a b : α} (h : Ev g a) (e : a = b) : Ev g b := e ▸ h

/-- What a loop comes to: from i on, d rounds at most; a round goes on (c) with a new state (f), or answers (e); behind the last: z. -/
def loopV {σ ρ : Type} (c : Nat → σ → Bool) (f : Nat → σ → σ) (e : Nat → σ → ρ) (z : σ → ρ) : Nat → Nat → σ → ρ
  | 0, _, s => z s
  | d + 1, i, s => if c i s = true then loopV c f e z d (i + 1) (f i s) else e i s
theorem Ev.loop {σ ρ : Type} {L : Nat → σ → Nat → Option ρ} (n : Nat) (c : Nat → σ → Bool) (f : Nat → σ → σ) (e : Nat → σ → ρ) (z : σ → ρ) (Inv : Nat → σ → Prop)
    (hgo : ∀ i s, i < n → Inv i s → c i s = true → Inv (i + 1) (f i s) ∧ ∀ r, Ev (fun k => L k (f i s) (i + 1)) r → Ev (fun k => L k s i) r)
    (hout : ∀ i s, i < n → Inv i s → c i s = false → Ev (fun k => L k s i) (e i s))
    (hend : ∀ s, Inv n s → Ev (fun k => L k s n) (z s)) :
    ∀ d i s, i + d = n → Inv i s → Ev (fun k => L k s i) (loopV c f e z d i s) := by
  intro d
  induction d with
  | zero =>
    intro i s hi hs
    obtain rfl : i = n := by omega
    exact hend s hs
  | succ d ih =>
    intro i s hi hs
    unfold loopV
    by_cases hc : c i s = true
    · rw [if_pos hc]
      obtain ⟨h1, h2⟩ := hgo i s (by omega) hs hc
      exact h2 _ (ih (i + 1) (f i s) (by omega) h1)
    · rw [if_neg hc]
      exact hout i s (by omega) hs (by simpa using hc)
theorem loopV_const {σ ρ : Type} {c : Nat → σ → Bool} {f : Nat → σ → σ} {e : Nat → σ → ρ} {z : σ → ρ} {r : ρ} (hc : ∀ i s, c i s = true) (hz : ∀ s, z s = r) : ∀ d i s, loopV c f e z d i s = r
  | 0, _, s => hz s
  | d + 1, i, s => by
    unfold loopV
    rw [if_pos (hc i s)]
    exact loopV_const hc hz d (i + 1) (f i s)
/-- A loop that only goes on. -/
theorem Ev.run {σ ρ : Type} {L : Nat → σ → Nat → Option ρ} (n : Nat) (f : Nat → σ → σ) (Inv : Nat → σ → Prop) (r : ρ)
    (hgo : ∀ i s, i < n → Inv i s → Inv (i + 1) (f i s) ∧ ∀ r, Ev (fun k => L k (f i s) (i + 1)) r → Ev (fun k => L k s i) r)
    (hend : ∀ s, Inv n s → Ev (fun k => L k s n) r) {d i : Nat} {s : σ} (hi : i + d = n) (hs : Inv i s) : Ev (fun k => L k s i) r := by
  have h := Ev.loop (L := L) n (fun _ _ => true) f (fun _ _ => r) (fun _ => r) Inv (fun i s hi hs _ => hgo i s hi hs) (fun _ _ _ _ h => by cases h) hend d i s hi hs
  rwa [loopV_const (fun _ _ => rfl) (fun _ => rfl)] at h
/-- A loop over a list that answers at the first element that fails. -/
theorem Ev.all {α ρ : Type} {L : Nat → Nat → Option ρ} (l : List α) (p : α → Bool) (re rf : ρ)
    (hgo : ∀ i (h : i < l.length), p l[i] = true → ∀ r, Ev (fun k => L k (i + 1)) r → Ev (fun k => L k i) r)
    (hout : ∀ i (h : i < l.length), p l[i] = false → Ev (fun k => L k i) rf)
    (hend : Ev (fun k => L k l.length) re) : Ev (fun k => L k 0) (if l.all p = true then re else rf) := by
  have key : ∀ d i, i + d = l.length → Ev (fun k => L k i) (if (l.drop i).all p = true then re else rf) := by
    intro d
    induction d with
    | zero =>
      intro i hi
      obtain rfl : i = l.length := by omega
      simpa using hend
    | succ d ih =>
      intro i hi
      have hlt : i < l.length := by omega
      rw [List.drop_eq_getElem_cons hlt, List.all_cons]
      by_cases hp : p l[i] = true
      · rw [hp, Bool.true_and]
        exact hgo i hlt hp _ (ih (i + 1) (by omega))
      · have hp' : p l[i] = false := by simpa using hp
        rw [hp', Bool.false_and, if_neg (by decide)]
        exact hout i hlt hp'
  have h := key l.length 0 (by omega)
  simpa using h
theorem Ev.if_ {α : Type} {g : Nat → Option α} {c : Prop} [Decidable c] {a b : α} (h1 : c → Ev g a) (h2 : ¬ c → Ev g b) : Ev g (if c then a else b) := by
  by_cases h : c
  · rw [if_pos h]; exact h1 h
  · rw [if_neg h]; exact h2 h
theorem take_set_succ {α : Type} {s l : List α} {i : Nat} (hl : s.length = l.length) (hi : i < l.length) (ht : s.take i = l.take i) : (s.set i l[i]).take (i + 1) = l.take (i + 1) := by
  rw [List.take_succ_eq_append_getElem (by simpa [hl] using hi), List.take_succ_eq_append_getElem hi, List.take_set_of_le (Nat.le_refl _), ht]
  simp
/-- The place of the first element of which p holds; -1 if there is none. -/
def findFrom {α : Type} (p : α → Bool) : Nat → List α → Int
  | _, [] => -1
  | i, x :: xs => if p x = true then (i : Int) else findFrom p (i + 1) xs
theorem findFrom_ge {α : Type} (p : α → Bool) : ∀ (l : List α) (i : Nat), decide (findFrom p i l ≥ 0) = l.any p
  | [], i => by simp [findFrom]
  | x :: xs, i => by
    unfold findFrom
    by_cases hp : p x = true
    · simp [hp]
    · simp [hp, findFrom_ge p xs (i + 1)]
theorem any_not {α : Type} (l : List α) (p : α → Bool) : l.any (fun x => !p x) = !l.all p := by
  induction l with
  | nil => rfl
  | cons x xs ih => rw [List.any_cons, List.all_cons, ih, Bool.not_and]
theorem Ev.find {α : Type} {L : Nat → Nat → Option Int} (l : List α) (p : α → Bool)
    (hgo : ∀ i (h : i < l.length), p l[i] = false → ∀ r, Ev (fun k => L k (i + 1)) r → Ev (fun k => L k i) r)
    (hout : ∀ i (h : i < l.length), p l[i] = true → Ev (fun k => L k i) (i : Int))
    (hend : Ev (fun k => L k l.length) (-1)) : Ev (fun k => L k 0) (findFrom p 0 l) := by
  have key : ∀ d i, i + d = l.length → Ev (fun k => L k i) (findFrom p i (l.drop i)) := by
    intro d
    induction d with
    | zero =>
      intro i hi
      obtain rfl : i = l.length := by omega
      simpa [findFrom] using hend
    | succ d ih =>
      intro i hi
      have hlt : i < l.length := by omega
      rw [List.drop_eq_getElem_cons hlt]
      unfold findFrom
      by_cases hp : p l[i] = true
      · rw [if_pos hp]
        exact hout i hlt hp
      · have hp' : p l[i] = false := by simpa using hp
        rw [if_neg hp]
        exact hgo i hlt hp' _ (ih (i + 1) (by omega))
  simpa using key l.length 0 (by omega)
theorem loopV_ind {σ ρ : Type} {c : Nat → σ → Bool} {f : Nat → σ → σ} {e : Nat → σ → ρ} {z : σ → ρ} (n : Nat) (Inv : Nat → σ → Prop) (P : ρ → Prop)
    (hgo : ∀ i s, i < n → Inv i s → c i s = true → Inv (i + 1) (f i s)) (hout : ∀ i s, i < n → Inv i s → c i s = false → P (e i s)) (hend : ∀ s, Inv n s → P (z s)) :
    ∀ d i s, i + d = n → Inv i s → P (loopV c f e z d i s) := by
  intro d
  induction d with
  | zero =>
    intro i s hi hs
    obtain rfl : i = n := by omega
    exact hend s hs
  | succ d ih =>
    intro i s hi hs
    unfold loopV
    by_cases hc : c i s = true
    · rw [if_pos hc]
      exact ih _ _ (by omega) (hgo i s (by omega) hs hc)
    · rw [if_neg hc]
      exact hout i s (by omega) hs (by simpa using hc)
theorem loopV_congr {σ ρ : Type} {c c' : Nat → σ → Bool} {f f' : Nat → σ → σ} {e e' : Nat → σ → ρ} {z z' : σ → ρ} (n : Nat) (Inv : Nat → σ → Prop)
    (hc : ∀ i s, i < n → Inv i s → c i s = c' i s) (hf : ∀ i s, i < n → Inv i s → c i s = true → f i s = f' i s ∧ Inv (i + 1) (f i s)) (he : ∀ i s, i < n → Inv i s → c i s = false → e i s = e' i s) (hz : ∀ s, Inv n s → z s = z' s) :
    ∀ d i s, i + d = n → Inv i s → loopV c f e z d i s = loopV c' f' e' z' d i s := by
  intro d
  induction d with
  | zero =>
    intro i s hi hs
    obtain rfl : i = n := by omega
    exact hz s hs
  | succ d ih =>
    intro i s hi hs
    unfold loopV
    rw [← hc i s (by omega) hs]
    by_cases h : c i s = true
    · rw [if_pos h, if_pos h]
      obtain ⟨h1, h2⟩ := hf i s (by omega) hs h
      rw [← h1]
      exact ih _ _ (by omega) h2
    · rw [if_neg h, if_neg h]
      exact he i s (by omega) hs (by simpa using h)
end Go.Proofs.Ythbgebikdleblaa.Q
