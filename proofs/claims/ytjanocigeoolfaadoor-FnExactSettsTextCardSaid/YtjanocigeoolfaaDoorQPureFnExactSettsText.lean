/- The law on SettsText answers true for every list of setts; no condition. -/
import Derived.Test.YtjanocigeoolfaaDoorQLawSettsText
import Derived.Test.YtjanocigeoolfaaDoorQOpn
import Derived.Test.YtjanocigeoolfaaDoorQBSett
namespace Go.Proofs.YtjanocigeoolfaaDoor.Q
open Go.RowKit Go.Proofs.YtjanocigeoolfaaDoorW.PrintWords Go.Proofs.YtjanocigeoolfaaDoorW.PrintLast Go.Proofs.YtjanocigeoolfaaDoorW.PrintMore
set_option linter.unusedVariables false

def Pure.FnExactSettsText : Prop := ∀ (x0 : List (S39)), (x0.length ≤ maxLen ∧ ∀ z_ ∈ x0, wf39 z_) → ∃ k, laws_FnExactSettsText.f k x0 = some true

theorem loopV_all {c : Nat → Bool} {z : Bool} : ∀ d i, loopV (fun i (_ : Unit) => c i) (fun _ s => s) (fun _ _ => false) (fun _ => z) d i () = true → z = true ∧ ∀ j, i ≤ j → j < i + d → c j = true
  | 0, i, h => ⟨h, fun j h1 h2 => by omega⟩
  | d + 1, i, h => by
    unfold loopV at h
    by_cases hc : c i = true
    · rw [if_pos hc] at h
      obtain ⟨h1, h2⟩ := loopV_all d (i + 1) h
      refine ⟨h1, fun j h3 h4 => ?_⟩
      by_cases h5 : j = i
      · rw [h5]; exact hc
      · exact h2 j (by omega) (by omega)
    · rw [if_neg hc] at h
      cases h
def goodE (s : S37) : Prop := 1 ≤ s.f0 ∧ s.f0 ≤ 20 ∧ 0 ≤ s.f1 ∧ s.f1 ≤ 60
theorem setts_goodE {l : List S37} (h : settsB l = true) (hw : ∀ s ∈ l, wrap64 s.f0 = s.f0 ∧ wrap64 s.f1 = s.f1) : ∀ s ∈ l, goodE s := by
  obtain ⟨h1, h2⟩ := loopV_all l.length 0 h
  intro s hs
  obtain ⟨e0, e1⟩ := hw s hs
  obtain ⟨i, hi, rfl⟩ := List.getElem_of_mem hs
  have hc := h2 i (by omega) (by omega)
  unfold settC at hc
  rw [Bool.and_eq_true, Bool.and_eq_true] at hc
  obtain ⟨⟨c1, c2⟩, -⟩ := hc
  obtain ⟨w1, w2⟩ := inB_iff.1 c1
  obtain ⟨n1, n2⟩ := inB_iff.1 c2
  rw [rdIT_get hi] at w1 w2 n1 n2
  rw [e0] at w1 w2
  rw [e1] at n1 n2
  exact ⟨w1, w2, n1, n2⟩
theorem wf_wrap {k : IntKind} {x : Int} (hk : k = .i8 ∨ k = .i16) (h : (Lit.int k x).wf = true) : wrap64 x = x := by
  have h2 : k.min ≤ x ∧ x ≤ k.max := by simpa [Lit.wf] using h
  rcases hk with rfl | rfl
  · have e0 : IntKind.i8.min = -128 := rfl
    have e1 : IntKind.i8.max = 127 := rfl
    exact w64 (by omega) (by omega)
  · have e0 : IntKind.i16.min = -32768 := rfl
    have e1 : IntKind.i16.max = 32767 := rfl
    exact w64 (by omega) (by omega)
theorem setts_wrap {l : List S39} (h : ∀ x ∈ l, wf39 x) : ∀ s ∈ l.map settOf, wrap64 s.f0 = s.f0 ∧ wrap64 s.f1 = s.f1 := by
  intro s hs
  obtain ⟨x, hx, rfl⟩ := List.mem_map.1 hs
  obtain ⟨h0, h1⟩ := h x hx
  exact ⟨wf_wrap (.inl rfl) h0, wf_wrap (.inr rfl) h1⟩
def bytesOf (l : List UInt8) : ByteArray := ⟨l.toArray⟩
theorem bytes_app (a b : List UInt8) : bytesOf a ++ bytesOf b = bytesOf (a ++ b) := by
  apply ByteArray.ext
  simp [bytesOf]
theorem bytes_size (a : List UInt8) : (bytesOf a).size = a.length := by simp [bytesOf, ByteArray.size]
theorem dec_len (n : Nat) (h : n < 100) : (Go.Lib.decDigits n).length ≤ 2 := by
  unfold Go.Lib.decDigits
  split
  · simp
  · unfold Go.Lib.decDigits
    rw [dif_pos (by omega)]
    simp
theorem digit_val (n : Nat) (h : n < 100) : strOfNums ([(wrap64 (48 + Int.tmod (n : Int) 10)) % 256] : List Int) = bytesOf [UInt8.ofNat (48 + n % 10)] := by
  have e1 : Int.tmod (n : Int) 10 = ((n % 10 : Nat) : Int) := by rw [Int.tmod_eq_emod_of_nonneg (by omega)]; omega
  have e2 : wrap64 (48 + ((n % 10 : Nat) : Int)) = ((48 + n % 10 : Nat) : Int) := by rw [w64 (by omega) (by omega)]; omega
  rw [e1, e2]
  have e3 : ((48 + n % 10 : Nat) : Int) % 256 = ((48 + n % 10 : Nat) : Int) := by omega
  rw [e3]
  rfl
theorem dec_val (n : Nat) (h : n < 100) : Ev (fun k => spec_Decimal.f k (n : Int)) (bytesOf (Go.Lib.decDigits n)) := by
  by_cases c : n < 10
  · refine Ev.step (fun k => spec_Decimal.f.eq_2 _ _) (Ev.ite_pos (by omega) ?_)
    rw [digit_val n h]
    unfold Go.Lib.decDigits
    rw [dif_pos c, Nat.mod_eq_of_lt c]
    exact Ev.now _
  · have e : wrap64 (Int.tdiv (n : Int) 10) = ((n / 10 : Nat) : Int) := by
      have : Int.tdiv (n : Int) 10 = ((n / 10 : Nat) : Int) := by rw [Int.tdiv_eq_ediv_of_nonneg (by omega)]; omega
      rw [this, w64 (by omega) (by omega)]
    have h1 : Ev (fun k => spec_Decimal.f k ((n / 10 : Nat) : Int)) (bytesOf [UInt8.ofNat (48 + n / 10)]) := by
      refine Ev.step (fun k => spec_Decimal.f.eq_2 _ _) (Ev.ite_pos (by omega) ?_)
      rw [digit_val (n / 10) (by omega), Nat.mod_eq_of_lt (by omega)]
      exact Ev.now _
    refine Ev.step (fun k => spec_Decimal.f.eq_2 _ _) (Ev.ite_neg (by omega) ?_)
    rw [e]
    refine Ev.bind h1 (Ev.call rfl ?_)
    rw [digit_val n h]
    refine Ev.ite_pos (by rw [bytes_size, bytes_size]; simp) ?_
    rw [bytes_app, show Go.Lib.decDigits n = [UInt8.ofNat (48 + n / 10)] ++ [UInt8.ofNat (48 + n % 10)] by
      rw [Go.Lib.decDigits, dif_neg c, Go.Lib.decDigits, dif_pos (by omega)]]
    exact Ev.now _
/-- One sett, as it is written. -/
def word (s : S37) : List UInt8 := Go.Lib.decDigits s.f0.toNat ++ 120 :: Go.Lib.decDigits s.f1.toNat
theorem word_len {s : S37} (h : goodE s) : (word s).length ≤ 5 := by
  obtain ⟨h0, h1, h2, h3⟩ := h
  have := dec_len s.f0.toNat (by omega)
  have := dec_len s.f1.toNat (by omega)
  unfold word
  rw [List.length_append, List.length_cons]
  omega
theorem impl_dec (n : Int) (h0 : 0 ≤ n) (h : n < 100) : impl_decimal.f n = some (bytesOf (Go.Lib.decDigits n.toNat)) := by
  unfold impl_decimal.f strconv_FormatInt_30.f
  rw [if_pos ⟨h0, h, rfl⟩]
  rfl
theorem spec_dec (n : Int) (h0 : 0 ≤ n) (h : n < 100) : Ev (fun k => spec_Decimal.f k n) (bytesOf (Go.Lib.decDigits n.toNat)) := by
  have := dec_val n.toNat (by omega)
  rwa [Int.toNat_of_nonneg h0] at this
def tailOf (l : List S37) : List UInt8 := Go.Lib.joinTail [32] (l.map word)
theorem tail_cons (s : S37) (l : List S37) : tailOf (s :: l) = 32 :: word s ++ tailOf l := by simp [tailOf, Go.Lib.joinTail]
def textOf (l : List S37) : List UInt8 := Go.Lib.join (l.map word) [32]
theorem x_is : (⟨#[120]⟩ : ByteArray) = bytesOf [120] := rfl
theorem sp_is : (⟨#[32]⟩ : ByteArray) = bytesOf [32] := rfl
theorem word_is (s : S37) : (bytesOf (Go.Lib.decDigits s.f0.toNat) ++ bytesOf [120]) ++ bytesOf (Go.Lib.decDigits s.f1.toNat) = bytesOf (word s) := by
  rw [bytes_app, bytes_app, List.append_assoc]
  rfl
theorem tail_ref (L : List S37) (hg : ∀ s ∈ L, goodE s) (h6 : L.length ≤ 6) : ∀ (d i : Nat) (acc : List UInt8), i + d = L.length → 1 ≤ i → acc.length ≤ 6 * i →
    Ev (fun k => spec_l03Text.l0 k L (bytesOf acc) (i : Int)) (bytesOf (acc ++ tailOf (L.drop i))) := by
  intro d
  induction d with
  | zero =>
    intro i acc hi h1 ha
    rw [List.drop_eq_nil_of_le (by omega), show tailOf [] = [] from rfl, List.append_nil]
    exact Ev.step (fun k => spec_l03Text.l0.eq_2 _ _ _ _) (Ev.ite_neg (by omega) (Ev.now _))
  | succ d ih =>
    intro i acc hi h1 ha
    have hlt : i < L.length := by omega
    have hgi := hg _ (List.getElem_mem hlt)
    have hw := word_len hgi
    obtain ⟨b0, b1, b2, b3⟩ := hgi
    have hl0 := dec_len L[i].f0.toNat (by omega)
    have hl1 := dec_len L[i].f1.toNat (by omega)
    have h := ih (i + 1) (acc ++ 32 :: word L[i]) (by omega) (by omega) (by rw [List.length_append, List.length_cons]; omega)
    refine Ev.step (fun k => spec_l03Text.l0.eq_2 _ _ _ _) (Ev.ite_pos (by omega) (Ev.ite_pos (by omega) (Ev.ite_pos (by rw [bytes_size]; omega) (Ev.ite_pos (by omega) ?_))))
    rw [rdIT_get hlt, w64 (x := L[i].f0) (by omega) (by omega), w64 (x := L[i].f1) (by omega) (by omega), w64_succ (by omega), x_is, sp_is]
    refine Ev.bind (spec_dec L[i].f0 (by omega) (by omega)) (Ev.ite_pos (by rw [bytes_size]; omega) (Ev.bind (spec_dec L[i].f1 (by omega) (by omega)) (Ev.ite_pos (by rw [bytes_app, bytes_size, bytes_size, List.length_append]; simp; omega) (Ev.ite_pos (by rw [word_is, bytes_app, bytes_size, bytes_size, List.length_append]; simp; omega) ?_))))
    rw [word_is, bytes_app, bytes_app]
    rw [List.drop_eq_getElem_cons hlt, tail_cons]
    have e1 : acc ++ [32] ++ word L[i] = acc ++ 32 :: word L[i] := by simp
    have e2 : acc ++ (32 :: word L[i] ++ tailOf (L.drop (i + 1))) = acc ++ 32 :: word L[i] ++ tailOf (L.drop (i + 1)) := by simp
    rw [e1, e2]
    exact h
theorem text_ref (L : List S37) (hg : ∀ s ∈ L, goodE s) (h6 : L.length ≤ 6) (h0 : 0 < L.length) : Ev (fun k => spec_l03Text.f k L) (bytesOf (textOf L)) := by
  unfold spec_l03Text.f
  have hgi := hg _ (List.getElem_mem h0)
  have hw := word_len hgi
  obtain ⟨b0, b1, b2, b3⟩ := hgi
  have hl0 := dec_len L[0].f0.toNat (by omega)
  have hl1 := dec_len L[0].f1.toNat (by omega)
  have h := tail_ref L hg h6 (L.length - 1) 1 (word L[0]) (by omega) (Nat.le_refl _) (by omega)
  refine Ev.step (fun k => spec_l03Text.l0.eq_2 _ _ _ _) (Ev.ite_pos (by omega) (Ev.ite_neg (by decide) (Ev.ite_pos (by decide) ?_)))
  have hr : rd_T37 L 0 = L[0] := rdIT_get (i := 0) h0
  rw [hr, w64 (x := L[0].f0) (by omega) (by omega), w64 (x := L[0].f1) (by omega) (by omega), x_is]
  refine Ev.bind (spec_dec L[0].f0 (by omega) (by omega)) (Ev.ite_pos (by rw [bytes_size]; omega) (Ev.bind (spec_dec L[0].f1 (by omega) (by omega)) (Ev.ite_pos (by rw [bytes_app, bytes_size, bytes_size, List.length_append]; simp; omega) (Ev.ite_pos (by rw [word_is, bytes_size]; show 0 + _ ≤ _; omega) ?_))))
  rw [word_is, show (⟨#[]⟩ : ByteArray) ++ bytesOf (word L[0]) = bytesOf (word L[0]) from bytes_app [] _, show wrap64 (0 + 1) = ((1 : Nat) : Int) by rw [w64 (by omega) (by omega)]; rfl]
  have e : textOf L = word L[0] ++ tailOf (L.drop 1) := by
    unfold textOf tailOf
    cases L with
    | nil => simp at h0
    | cons s r => rw [List.map_cons, Go.Lib.join_cons]; rfl
  rw [e]
  exact h
theorem text_len (L : List S37) (hg : ∀ s ∈ L, goodE s) : (textOf L).length ≤ 6 * L.length := by
  have key : ∀ r : List S37, (∀ s ∈ r, goodE s) → (tailOf r).length ≤ 6 * r.length := by
    intro r
    induction r with
    | nil => intro _; simp [tailOf, Go.Lib.joinTail]
    | cons s r ih =>
      intro h
      have h1 := word_len (h s (by simp))
      have h2 := ih (fun x hx => h x (by simp [hx]))
      rw [tail_cons, List.length_append, List.length_cons, List.length_cons]
      omega
  cases L with
  | nil => simp [textOf, Go.Lib.join_nil]
  | cons s r =>
    have h1 := word_len (hg s (by simp))
    have h2 := key r (fun x hx => hg x (by simp [hx]))
    have e : textOf (s :: r) = word s ++ tailOf r := by
      unfold textOf tailOf
      rw [List.map_cons, Go.Lib.join_cons]
    rw [e, List.length_append, List.length_cons]
    omega
theorem words_ref (L : List S37) (hg : ∀ s ∈ L, goodE s) (h6 : L.length ≤ 6) : ∀ (d i : Nat), i + d = L.length →
    Ev (fun k => impl_SettsText.l0 k ((L.take i).map fun s => bytesOf (word s)) L (L.length : Int) (i : Int)) (bytesOf (textOf L)) := by
  intro d
  induction d with
  | zero =>
    intro i hi
    have hj : strings_Join.bytes ((L.take i).map fun s => bytesOf (word s)) (⟨#[32]⟩ : ByteArray) = textOf L := by
      unfold strings_Join.bytes textOf
      rw [List.take_of_length_le (by omega), List.map_map]
      rfl
    have ht := text_len L hg
    refine Ev.step (fun k => impl_SettsText.l0.eq_2 _ _ _ _ _) (Ev.ite_neg (by omega) (Ev.call ?_ (Ev.now _)))
    unfold strings_Join.f
    rw [hj, if_pos ⟨by rw [List.length_map, List.length_take]; omega, by omega⟩]
    rfl
  | succ d ih =>
    intro i hi
    have hlt : i < L.length := by omega
    obtain ⟨b0, b1, b2, b3⟩ := hg _ (List.getElem_mem hlt)
    have hl0 := dec_len L[i].f0.toNat (by omega)
    have hl1 := dec_len L[i].f1.toNat (by omega)
    have h := ih (i + 1) (by omega)
    refine Ev.step (fun k => impl_SettsText.l0.eq_2 _ _ _ _ _) (Ev.ite_pos (by omega) (Ev.ite_pos (by omega) (Ev.ite_pos (by omega) ?_)))
    rw [rdIT_get hlt, w64 (x := L[i].f0) (by omega) (by omega), w64 (x := L[i].f1) (by omega) (by omega), w64_succ (by omega), x_is]
    refine Ev.call (impl_dec L[i].f0 (by omega) (by omega)) (Ev.ite_pos (by rw [bytes_size]; omega) (Ev.call (impl_dec L[i].f1 (by omega) (by omega)) (Ev.ite_pos (by rw [bytes_app, bytes_size, bytes_size, List.length_append]; simp; omega) (Ev.ite_pos (by rw [List.length_map, List.length_take]; omega) ?_))))
    rw [word_is]
    rw [List.take_succ_eq_append_getElem hlt, List.map_append] at h
    exact h
def settsTextR (L : List S37) : ByteArray := if settsB L = true then bytesOf (textOf L) else ⟨#[]⟩
theorem setts_six {L : List S37} (h : settsB L = true) : 0 < L.length ∧ L.length ≤ 6 := by
  obtain ⟨n0, n1⟩ := inB_iff.1 (loopV_all L.length 0 h).1
  omega
theorem specText (L : List S37) (h : L.length ≤ 1048576) (hw : ∀ s ∈ L, wrap64 s.f0 = s.f0 ∧ wrap64 s.f1 = s.f1) : Ev (fun k => spec_SettsText.f k L) (settsTextR L) := by
  unfold spec_SettsText.f settsTextR
  refine Ev.bind (specSetts L h) ?_
  by_cases hv : settsB L = true
  · rw [if_pos hv]
    exact Ev.ite_pos hv (Ev.bind (text_ref L (setts_goodE hv hw) (setts_six hv).2 (setts_six hv).1) (Ev.now _))
  · rw [if_neg hv]
    exact Ev.ite_neg hv (Ev.now _)
theorem implText (L : List S37) (h : L.length ≤ 1048576) (hw : ∀ s ∈ L, wrap64 s.f0 = s.f0 ∧ wrap64 s.f1 = s.f1) : Ev (fun k => impl_SettsText.f k L) (settsTextR L) := by
  unfold impl_SettsText.f settsTextR
  refine Ev.bind (implSetts L h) ?_
  by_cases hv : settsB L = true
  · rw [if_pos hv]
    exact Ev.ite_pos hv (words_ref L (setts_goodE hv hw) (setts_six hv).2 L.length 0 (by omega))
  · rw [if_neg hv]
    exact Ev.ite_neg hv (Ev.now _)
theorem pure_FnExactSettsText : Pure.FnExactSettsText := by
  rintro l ⟨hl, hwf⟩
  unfold maxLen at hl
  refine Ev.rounds (g := fun k => laws_FnExactSettsText.f k l) ?_
  unfold laws_FnExactSettsText.f
  refine Ev.call (szSetts l _ hl (by omega) (by omega)) ?_
  by_cases h : (1048576 : Int) < l.length
  · rw [if_pos h]
    exact Ev.ite_pos (by decide) (Ev.now _)
  · rw [if_neg h]
    have hw := setts_wrap hwf
    have hS := specText (l.map settOf) (by simp; omega) hw
    have hI := implText (l.map settOf) (by simp; omega) hw
    generalize settsTextR (l.map settOf) = R at *
    exact Ev.ite_neg (by omega) (Ev.bind (toSetts l (by omega)) (Ev.bind hS (Ev.bind (toSetts l (by omega)) (Ev.bind hI (Ev.ite_pos rfl (Ev.bind (toSetts l (by omega)) (Ev.bind (eqSetts _ (by simp; omega)) (Ev.ite_pos rfl (Ev.now _)))))))))
end Go.Proofs.YtjanocigeoolfaaDoor.Q
