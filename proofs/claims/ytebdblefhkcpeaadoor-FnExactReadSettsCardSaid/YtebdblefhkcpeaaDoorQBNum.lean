/- Plain facts on decimal numerals (as strconv reads and writes them) and on the pieces of a text; no program in them. -/
import Derived.Test.YtebdblefhkcpeaaDoorQEv
import Derived.Lib.ItoaMem
import Derived.Lib.ParseIntB
import Derived.Lib.Split
import Derived.Lib.IndexBytes
import Derived.Lib.IndexLaws
import Derived.Lib.IndexMore
namespace Go.Proofs.YtebdblefhkcpeaaDoor.Q
open Go.RowKit Go.Proofs.YtebdblefhkcpeaaDoorW.PrintWords Go.Proofs.YtebdblefhkcpeaaDoorW.PrintLast Go.Proofs.YtebdblefhkcpeaaDoorW.PrintMore
set_option linter.unusedVariables false
namespace Num
def dig (c : UInt8) : Prop := 48 ≤ c.toNat ∧ c.toNat ≤ 57
instance (c : UInt8) : Decidable (dig c) := by unfold dig; infer_instance
def val : Nat → List UInt8 → Nat
  | acc, [] => acc
  | acc, c :: r => val (10 * acc + (c.toNat - 48)) r
theorem val_append : ∀ (l r : List UInt8) (acc : Nat), val acc (l ++ r) = val (val acc l) r
  | [], _, _ => rfl
  | c :: l, r, acc => val_append l r _
theorem val_ge : ∀ (l : List UInt8) (acc : Nat), acc ≤ val acc l
  | [], _ => Nat.le_refl _
  | c :: l, acc => Nat.le_trans (by omega) (val_ge l (10 * acc + (c.toNat - 48)))
theorem val_lt : ∀ (l : List UInt8) (acc : Nat), (∀ c ∈ l, dig c) → val acc l < (acc + 1) * 10 ^ l.length
  | [], acc, _ => by show acc < _; simp
  | c :: l, acc, h => by
    have hc := h c (by simp)
    unfold dig at hc
    have ih := val_lt l (10 * acc + (c.toNat - 48)) (fun x hx => h x (by simp [hx]))
    show val (10 * acc + (c.toNat - 48)) l < _
    refine Nat.lt_of_lt_of_le ih ?_
    rw [List.length_cons, Nat.pow_succ, Nat.mul_comm (10 ^ l.length) 10, ← Nat.mul_assoc]
    exact Nat.mul_le_mul_right _ (by omega)
/-- A numeral: digits, at least one, and no zero ahead of another digit. -/
def Numl (l : List UInt8) : Prop := l ≠ [] ∧ (∀ c ∈ l, dig c) ∧ (l.head? = some 48 → l.length = 1)
theorem dig_ofNat {u : Nat} (h : u < 10) : (UInt8.ofNat (48 + u)).toNat = 48 + u := by
  rw [UInt8.toNat_ofNat']
  omega
theorem val_pos {l : List UInt8} (h : Numl l) (h1 : l.head? ≠ some 48) : 1 ≤ val 0 l := by
  obtain ⟨hn, hd, -⟩ := h
  cases l with
  | nil => exact absurd rfl hn
  | cons c r =>
    have hc := hd c (by simp)
    unfold dig at hc
    have : c.toNat ≠ 48 := fun e => h1 (by
      have : c = 48 := UInt8.toNat_inj.1 e
      rw [this]; rfl)
    refine Nat.le_trans ?_ (val_ge r (10 * 0 + (c.toNat - 48)))
    omega
theorem dec_val : ∀ (n : Nat) (l : List UInt8), l.length = n → Numl l → Go.Lib.decDigits (val 0 l) = l
  | n, l, hl, hc => by
    obtain ⟨hn, hd, hz⟩ := hc
    have he := List.dropLast_concat_getLast hn
    generalize l.dropLast = p at he
    generalize l.getLast hn = c at he
    subst he
    have hlen : p.length < n := by rw [← hl, List.length_append, List.length_singleton]; omega
    have hcd : dig c := hd c (by simp)
    have hcd' := hcd
    unfold dig at hcd'
    have hcc : UInt8.ofNat (48 + (c.toNat - 48)) = c := UInt8.toNat_inj.1 (by rw [dig_ofNat (by omega)]; omega)
    rw [val_append]
    show Go.Lib.decDigits (10 * val 0 p + (c.toNat - 48)) = _
    by_cases hp : p = []
    · subst hp
      show Go.Lib.decDigits (10 * 0 + (c.toNat - 48)) = _
      rw [Nat.mul_zero, Nat.zero_add, Go.Lib.decDigits_one (by omega), hcc]
      rfl
    · have hz' : p.head? ≠ some 48 := fun e => by
        have := hz (by rw [List.head?_append, e]; rfl)
        rw [List.length_append] at this
        have h0 : 0 < p.length := List.length_pos_iff.2 hp
        rw [List.length_singleton] at this
        omega
      have hcp : Numl p := ⟨hp, fun x hx => hd x (by simp [hx]), fun e => absurd e hz'⟩
      have h1 := val_pos hcp hz'
      have ih := dec_val p.length p rfl hcp
      rw [Go.Lib.decDigits, dif_neg (by omega), show (10 * val 0 p + (c.toNat - 48)) / 10 = val 0 p by omega, show (10 * val 0 p + (c.toNat - 48)) % 10 = c.toNat - 48 by omega, hcc, ih]
termination_by n => n
decreasing_by exact hlen
theorem can_dec (n : Nat) : Numl (Go.Lib.decDigits n) ∧ val 0 (Go.Lib.decDigits n) = n := by
  induction n using Nat.strongRecOn with
  | _ n ih =>
    by_cases h : n < 10
    · rw [Go.Lib.decDigits_one h]
      refine ⟨⟨by simp, fun c hc => ?_, fun _ => rfl⟩, ?_⟩
      · obtain rfl := List.mem_singleton.1 hc
        unfold dig
        rw [dig_ofNat h]
        omega
      · show 10 * 0 + ((UInt8.ofNat (48 + n)).toNat - 48) = n
        rw [dig_ofNat h]
        omega
    · obtain ⟨⟨h1, h2, h3⟩, h4⟩ := ih (n / 10) (by omega)
      rw [Go.Lib.decDigits, dif_neg h]
      refine ⟨⟨by simp, fun c hc => ?_, fun e => ?_⟩, ?_⟩
      · rcases List.mem_append.1 hc with hc | hc
        · exact h2 c hc
        · obtain rfl := List.mem_singleton.1 hc
          unfold dig
          rw [dig_ofNat (by omega)]
          omega
      · exfalso
        cases hd : Go.Lib.decDigits (n / 10) with
        | nil => exact h1 hd
        | cons c r =>
          rw [hd] at e h3 h4
          have e' : c = 48 := by simpa using e
          have hl := h3 (by rw [e']; rfl)
          have hr : r = [] := by simpa using hl
          subst hr
          subst e'
          have : val 0 [48] = 0 := rfl
          omega
      · rw [val_append, h4]
        show 10 * (n / 10) + ((UInt8.ofNat (48 + n % 10)).toNat - 48) = n
        rw [dig_ofNat (by omega)]
        omega
theorem dec_len : ∀ (k n : Nat), n < 10 ^ (k + 1) → (Go.Lib.decDigits n).length ≤ k + 1
  | 0, n, h => by rw [Go.Lib.decDigits_one (by simpa using h)]; exact Nat.le_refl _
  | k + 1, n, h => by
    by_cases h1 : n < 10
    · rw [Go.Lib.decDigits_one h1]; simp
    · rw [Go.Lib.decDigits, dif_neg h1, List.length_append]
      have := dec_len k (n / 10) (by rw [Nat.pow_succ] at h; omega)
      simp
      omega
theorem parse_digits {M : Nat} : ∀ (l : List UInt8) (acc : Nat), (∀ c ∈ l, dig c) → val acc l ≤ M → val acc l < 1844674407370955162 → Go.Lib.parseUintM M acc l = .ok (val acc l)
  | [], _, _, _, _ => rfl
  | c :: l, acc, hd, h1, h2 => by
    have hc := hd c (by simp)
    unfold dig at hc
    have e : acc * 10 + (c.toNat - 48) = 10 * acc + (c.toNat - 48) := by omega
    have hg := val_ge l (10 * acc + (c.toNat - 48))
    have h1' : val (10 * acc + (c.toNat - 48)) l ≤ M := h1
    have h2' : val (10 * acc + (c.toNat - 48)) l < 1844674407370955162 := h2
    unfold Go.Lib.parseUintM
    rw [if_pos hc, if_neg (by omega), e, if_neg (by omega)]
    exact parse_digits l _ (fun x hx => hd x (by simp [hx])) h1' h2'
theorem parse_can {l : List UInt8} (h : Numl l) (hv : val 0 l < 1000000000000000000) : Go.Lib.parseIntB 64 l = .ok (val 0 l : Int) := by
  obtain ⟨hn, hd, -⟩ := h
  cases l with
  | nil => exact absurd rfl hn
  | cons c r =>
    have hc := hd c (by simp)
    unfold dig at hc
    have hp : Go.Lib.parseUintB 64 (c :: r) = .ok (val 0 (c :: r)) := by
      unfold Go.Lib.parseUintB
      rw [if_neg (by simp)]
      exact parse_digits _ _ hd (by omega) (by omega)
    unfold Go.Lib.parseIntB
    simp only
    rw [if_neg (by omega), hp]
    simp only
    rw [if_neg (by omega), if_neg (by omega), if_neg (by omega)]
/-- A text that is no numeral is not what its own value is written as. -/
theorem itoa_can {v : Int} (h : 0 ≤ v) : Numl (Go.Lib.itoa v) := by
  obtain ⟨u, rfl⟩ := Int.eq_ofNat_of_zero_le h
  rw [Go.Lib.itoa_nonneg]
  exact (can_dec u).1
instance (l : List UInt8) : Decidable (Numl l) := by unfold Numl; infer_instance
/-- What impl.number answers. -/
theorem number_eq (s : ByteArray) (most : Nat) (hm : most < 1000000000) (x : Int × Bool)
    (hx : x = match Go.Lib.parseIntB 64 s.data.toList with
      | .ok v => if (⟨(Go.Lib.itoa v).toArray⟩ : ByteArray) = s ∧ 0 ≤ v ∧ v ≤ (most : Int) then (v, true) else (0, false)
      | _ => (0, false)) :
    x = if Numl s.data.toList ∧ val 0 s.data.toList ≤ most then ((val 0 s.data.toList : Int), true) else (0, false) := by
  subst hx
  by_cases hc : Numl s.data.toList ∧ val 0 s.data.toList ≤ most
  · rw [if_pos hc, parse_can hc.1 (by omega)]
    simp only
    rw [Go.Lib.itoa_nonneg, dec_val _ _ rfl hc.1, if_pos ⟨rfl, by omega, by omega⟩]
  · rw [if_neg hc]
    rcases hp : Go.Lib.parseIntB 64 s.data.toList with v | - | -
    · simp only
      rw [if_neg]
      rintro ⟨h1, h2, h3⟩
      apply hc
      have h4 : s.data.toList = Go.Lib.itoa v := by rw [← h1]
      obtain ⟨u, rfl⟩ := Int.eq_ofNat_of_zero_le h2
      rw [Go.Lib.itoa_nonneg] at h4
      rw [h4, (can_dec u).2]
      exact ⟨(can_dec u).1, by omega⟩
    · rfl
    · rfl
/-- The pieces of a text between the bytes c. -/
def cuts (c : UInt8) : List UInt8 → List (List UInt8)
  | [] => [[]]
  | x :: r => if x = c then [] :: cuts c r else match cuts c r with
    | h :: t => (x :: h) :: t
    | [] => [[x]]
theorem cuts_ne (c : UInt8) (l : List UInt8) : cuts c l ≠ [] := by
  cases l with
  | nil => simp [cuts]
  | cons x r =>
    unfold cuts
    split
    · simp
    · split <;> simp
theorem cuts_no {c : UInt8} : ∀ {l : List UInt8}, c ∉ l → cuts c l = [l]
  | [], _ => rfl
  | x :: r, h => by
    have h1 : x ≠ c := fun e => h (by simp [e])
    have h2 := cuts_no (c := c) (l := r) (fun e => h (by simp [e]))
    unfold cuts
    rw [if_neg h1, h2]
theorem cuts_hit {c : UInt8} : ∀ {l r : List UInt8}, c ∉ l → cuts c (l ++ c :: r) = l :: cuts c r
  | [], r, _ => by simp [cuts]
  | x :: l, r, h => by
    have h1 : x ≠ c := fun e => h (by simp [e])
    have h2 := cuts_hit (c := c) (l := l) (r := r) (fun e => h (by simp [e]))
    show cuts c (x :: (l ++ c :: r)) = _
    rw [cuts, if_neg h1, h2]
theorem index_split (l : List UInt8) (c : UInt8) : (Go.Lib.index l [c] = -1 ∧ c ∉ l) ∨ ∃ i : Nat, Go.Lib.index l [c] = i ∧ i < l.length ∧ c ∉ l.take i ∧ l = l.take i ++ c :: l.drop (i + 1) := by
  rw [Go.Lib.index_one]
  have hge : -1 ≤ Go.Lib.indexByte l c := by rw [← Go.Lib.index_one]; exact Go.Lib.index_ge _ _
  rcases (by omega : Go.Lib.indexByte l c = -1 ∨ 0 ≤ Go.Lib.indexByte l c) with h | h
  · refine .inl ⟨h, fun hm => ?_⟩
    obtain ⟨k, hk, he⟩ := List.getElem_of_mem hm
    exact Go.Lib.indexByte_none h k (by rw [List.getElem?_eq_getElem hk, he])
  · obtain ⟨i, hi⟩ := Int.eq_ofNat_of_zero_le h
    obtain ⟨h1, h2⟩ := Go.Lib.indexByte_some hi
    obtain ⟨hl, he⟩ := List.getElem?_eq_some_iff.1 h1
    refine .inr ⟨i, hi, hl, fun hm => ?_, ?_⟩
    · obtain ⟨k, hk, hk'⟩ := List.getElem_of_mem hm
      rw [List.length_take] at hk
      rw [List.getElem_take] at hk'
      exact h2 k (by omega) (by rw [List.getElem?_eq_getElem (by omega), hk'])
    · rw [← he, List.getElem_cons_drop, List.take_append_drop]
theorem splitK_cuts (c : UInt8) : ∀ (n : Nat) (l : List UInt8), l.length ≤ n → Go.Lib.splitK [c] 0 (Go.Lib.count l [c]) l = cuts c l
  | n, l, hn => by
    rcases index_split l c with ⟨h, hm⟩ | ⟨i, hi, hl, hm, he⟩
    · rw [Go.Lib.count_miss h, cuts_no hm]
      rfl
    · rw [Go.Lib.count_hit (by simp) hi, Nat.add_comm 1]
      have hb : ¬ (Go.Lib.index l [c] == -1) = true := fun e => by have := beq_iff_eq.1 e; omega
      rw [Go.Lib.splitK, if_neg hb, hi]
      conv => rhs; rw [he]
      rw [cuts_hit hm]
      simp only [Int.toNat_natCast, Nat.add_zero, List.length_singleton]
      rw [splitK_cuts c (n - 1) (l.drop (i + 1)) (by rw [List.length_drop]; omega)]
termination_by n => n
decreasing_by omega
def asB (l : List (List UInt8)) : List ByteArray := l.map fun x => ⟨x.toArray⟩
theorem splitB_cuts (s : ByteArray) (c : UInt8) : Go.Lib.splitB ⟨#[c]⟩ 0 (Go.Lib.countB s ⟨#[c]⟩) s = asB (cuts c s.data.toList) := by
  have h := Go.Lib.splitB_data ⟨#[c]⟩ 0 (Go.Lib.countB s ⟨#[c]⟩) s
  have h2 : Go.Lib.splitK [c] 0 (Go.Lib.count s.data.toList [c]) s.data.toList = cuts c s.data.toList := splitK_cuts c _ _ (Nat.le_refl _)
  have h3 : (Go.Lib.splitB ⟨#[c]⟩ 0 (Go.Lib.countB s ⟨#[c]⟩) s).map (·.data.toList) = cuts c s.data.toList := h.trans h2
  rw [asB, ← h3, List.map_map]
  conv => lhs; rw [← List.map_id (Go.Lib.splitB _ _ _ _)]
  exact List.map_congr_left fun x _ => rfl
theorem cuts_len (c : UInt8) : ∀ l : List UInt8, (cuts c l).length ≤ l.length + 1
  | [] => by simp [cuts]
  | x :: r => by
    have ih := cuts_len c r
    unfold cuts
    split
    · simp; omega
    · split
      · rename_i h t e
        rw [e] at ih
        simp at ih ⊢
        omega
      · simp
theorem cut_eq (l : List UInt8) (c : UInt8) : Go.Lib.cut l [c] = match cuts c l with
    | a :: b :: t => (a, l.drop (a.length + 1), true)
    | _ => (l, [], false) := by
  rcases index_split l c with ⟨h, hm⟩ | ⟨i, hi, hl, hm, he⟩
  · unfold Go.Lib.cut
    rw [cuts_no hm, if_neg (by omega)]
  · have h1 : cuts c l = l.take i :: cuts c (l.drop (i + 1)) := by
      conv => lhs; rw [he]
      exact cuts_hit hm
    unfold Go.Lib.cut
    rw [h1, if_pos (by omega), hi]
    cases h2 : cuts c (l.drop (i + 1)) with
    | nil => exact absurd h2 (cuts_ne _ _)
    | cons b t =>
      simp only [Int.toNat_natCast, List.length_take, List.length_singleton]
      rw [Nat.min_eq_left (by omega)]
end Num
end Go.Proofs.YtebdblefhkcpeaaDoor.Q
