/- The law on ReadSetts answers true for every text; no condition. -/
import Derived.Test.YtebdblefhkcpeaaDoorQLawReadSetts
import Derived.Test.YtebdblefhkcpeaaDoorQOpn
import Derived.Test.YtebdblefhkcpeaaDoorQBSett
import Derived.Test.YtebdblefhkcpeaaDoorQBNum
namespace Go.Proofs.YtebdblefhkcpeaaDoor.Q
open Go.RowKit Go.Proofs.YtebdblefhkcpeaaDoorW.PrintWords Go.Proofs.YtebdblefhkcpeaaDoorW.PrintLast Go.Proofs.YtebdblefhkcpeaaDoorW.PrintMore
set_option linter.unusedVariables false
set_option linter.unusedSimpArgs false

def Pure.FnExactReadSetts : Prop := ∀ (x0 : ByteArray), x0.size ≤ maxLen → ∃ k, laws_FnExactReadSetts.f k x0 = some true

open Num
theorem bt_nat {s : ByteArray} {i : Nat} (h : i < s.size) : bt s (i : Int) = ((s.data.toList[i]'(by simpa using h)).toNat : Int) := by
  unfold bt
  rw [dif_pos (by simpa using h)]
  rfl
theorem size_toList (s : ByteArray) : s.data.toList.length = s.size := Array.length_toList
theorem extract_bytes (s : ByteArray) (a b : Nat) : s.extract a b = ⟨((s.data.toList.drop a).take (b - a)).toArray⟩ := by
  apply ByteArray.ext
  apply Array.toList_inj.1
  rw [Go.Lib.extract_data]
theorem extract_end (s : ByteArray) (a : Nat) : s.extract a s.size = ⟨(s.data.toList.drop a).toArray⟩ := by
  apply ByteArray.ext
  apply Array.toList_inj.1
  rw [Go.Lib.extract_to_end]
theorem byte_eq {a c : UInt8} : ((a.toNat : Int) = (c.toNat : Int)) ↔ a = c := ⟨fun h => UInt8.toNat_inj.1 (by omega), fun h => by rw [h]⟩
/-- The reference's pieces of a text. -/
theorem specSplit (s : ByteArray) (c : UInt8) (hs : s.size ≤ 4194304) : Ev (fun k => spec_l01Split.f k s (c.toNat : Int)) (asB (cuts c s.data.toList)) := by
  unfold spec_l01Split.f
  have hsz := size_toList s
  refine Ev.run (L := fun k (p : List ByteArray × Nat) (i : Nat) => spec_l01Split.l0 k s (c.toNat : Int) p.1 (p.2 : Int) (i : Int)) s.size (fun i p => if (bt s (i : Int)) = (c.toNat : Int) then (p.1 ++ [s.extract p.2 i], i + 1) else p) (fun i p => p.2 ≤ i ∧ p.1.length ≤ i ∧ c ∉ (s.data.toList.drop p.2).take (i - p.2) ∧ p.1 ++ asB (cuts c (s.data.toList.drop p.2)) = asB (cuts c s.data.toList)) _ ?_ ?_ (d := s.size) (i := 0) (s := ([], 0)) (by omega) ⟨Nat.le_refl _, Nat.le_refl _, by simp, by simp⟩
  · rintro i ⟨out, b⟩ hi ⟨h1, h2, h3, h4⟩
    simp only at h1 h2 h3 h4
    have h2' : ((out, b) : List ByteArray × Nat).1.length ≤ s.size := by show out.length ≤ _; omega
    have hil : i < s.data.toList.length := by omega
    by_cases hc : (bt s (i : Int)) = (c.toNat : Int)
    · have hx : s.data.toList[i] = c := by rw [bt_nat hi] at hc; exact byte_eq.1 hc
      have hd : s.data.toList.drop b = (s.data.toList.drop b).take (i - b) ++ c :: s.data.toList.drop (i + 1) := by
        have e : (s.data.toList.drop b).drop (i - b) = c :: s.data.toList.drop (i + 1) := by
          rw [List.drop_drop, show b + (i - b) = i by omega, List.drop_eq_getElem_cons hil, hx]
        rw [← e, List.take_append_drop]
      refine ⟨?_, fun r hr => Ev.step (fun k => spec_l01Split.l0.eq_2 _ _ _ _ _ _) ?_⟩
      · rw [if_pos hc]
        refine ⟨Nat.le_refl _, by simp; omega, by simp, ?_⟩
        rw [← h4, hd, cuts_hit h3]
        show _ ++ asB _ = _ ++ (_ :: asB _)
        rw [extract_bytes]
        simp [List.drop_append, asB]
      · rw [if_pos hc] at hr
        refine Ev.ite_pos (by omega) (Ev.ite_pos (ge0 _) (Ev.ite_pos hc (Ev.ite_pos (ge0 _) (Ev.ite_pos (by omega) (Ev.ite_pos (by omega) (Ev.ite_pos (by omega) ?_))))))
        rw [w64_succ (by omega)]
        exact hr
    · have hx : s.data.toList[i] ≠ c := fun e => hc (by rw [bt_nat hi, e])
      refine ⟨?_, fun r hr => Ev.step (fun k => spec_l01Split.l0.eq_2 _ _ _ _ _ _) ?_⟩
      · rw [if_neg hc]
        refine ⟨by omega, by show out.length ≤ i + 1; omega, ?_, h4⟩
        show c ∉ (s.data.toList.drop b).take (i + 1 - b)
        rw [show i + 1 - b = (i - b) + 1 by omega, List.take_succ_eq_append_getElem (by rw [List.length_drop]; omega), List.mem_append]
        rintro (h | h)
        · exact h3 h
        · rw [List.getElem_drop, List.mem_singleton] at h
          exact hx (by rw [h]; congr 1; omega)
      · rw [if_neg hc] at hr
        refine Ev.ite_pos (by omega) (Ev.ite_pos (ge0 _) (Ev.ite_neg hc ?_))
        rw [w64_succ (by omega)]
        exact hr
  · rintro ⟨out, b⟩ ⟨h1, h2, h3, h4⟩
    simp only at h1 h2 h3 h4
    have h2' : ((out, b) : List ByteArray × Nat).1.length ≤ s.size := by show out.length ≤ _; omega
    refine Ev.step (fun k => spec_l01Split.l0.eq_2 _ _ _ _ _ _) (Ev.ite_neg (by omega) (Ev.ite_pos (ge0 _) (Ev.ite_pos (by omega) (Ev.ite_pos (by omega) (Ev.eq_ (Ev.now _) ?_)))))
    rw [List.take_of_length_le (by rw [List.length_drop]; omega)] at h3
    rw [cuts_no h3] at h4
    rw [← h4, Int.toNat_natCast, extract_end]
    rfl
def numV (l : List UInt8) : Int × Bool := if Numl l ∧ l.length ≤ 10 then ((val 0 l : Int), true) else (0, false)
theorem loop_num (l : List UInt8) : ∀ d i (v : Nat), i + d = l.length →
    loopV (fun i (_ : Nat) => decide (∀ h : i < l.length, dig (l[i]'h))) (fun i v => 10 * v + ((l.getD i 0).toNat - 48)) (fun _ _ => ((0 : Int), false)) (fun v => ((v : Int), true)) d i v
      = if (∀ c ∈ l.drop i, dig c) then ((val v (l.drop i) : Int), true) else (0, false)
  | 0, i, v, h => by
    obtain rfl : i = l.length := by omega
    unfold loopV
    rw [List.drop_length, if_pos (by simp)]
    rfl
  | d + 1, i, v, h => by
    have hi : i < l.length := by omega
    unfold loopV
    rw [List.drop_eq_getElem_cons hi]
    by_cases hc : dig l[i]
    · rw [if_pos (decide_eq_true fun _ => hc), loop_num l d (i + 1) _ (by omega)]
      have e : l.getD i 0 = l[i] := by rw [List.getD_eq_getElem?_getD, List.getElem?_eq_getElem hi]; rfl
      rw [e]
      by_cases ha : ∀ c ∈ l.drop (i + 1), dig c
      · rw [if_pos ha, if_pos (fun x hx => by
          rcases List.mem_cons.1 hx with rfl | hx
          · exact hc
          · exact ha x hx)]
        rfl
      · rw [if_neg ha, if_neg (fun h_ => ha fun x hx => h_ x (List.mem_cons_of_mem _ hx))]
    · rw [if_neg (by rw [decide_eq_true_eq]; exact fun h_ => hc (h_ hi)), if_neg (fun h_ => hc (h_ _ List.mem_cons_self))]
/-- The reference's number. -/
theorem specNumber (s : ByteArray) : Ev (fun k => spec_l01Number.f k s) (numV s.data.toList) := by
  have hsz := size_toList s
  unfold spec_l01Number.f
  have no : Ev (fun k => spec_l01Number.j0 k s true) ((0 : Int), false) := Ev.step (fun k => spec_l01Number.j0.eq_2 _ _ _) (Ev.ite_pos rfl (Ev.now _))
  have yes : s.size ≤ 10 → Ev (fun k => spec_l01Number.j0 k s false) (if (∀ c ∈ s.data.toList, dig c) then ((val 0 s.data.toList : Int), true) else (0, false)) := by
    intro hl
    refine Ev.step (fun k => spec_l01Number.j0.eq_2 _ _ _) (Ev.ite_neg (by decide) ?_)
    have hp := Ev.loop (L := fun k (v : Nat) (i : Nat) => spec_l01Number.l0 k s (v : Int) (i : Int)) s.size (fun i (_ : Nat) => decide (∀ h : i < s.data.toList.length, dig (s.data.toList[i]'h))) (fun i v => 10 * v + ((s.data.toList.getD i 0).toNat - 48)) (fun _ _ => ((0 : Int), false)) (fun v => ((v : Int), true)) (fun i v => v < 10 ^ i) ?_ ?_ ?_ s.size 0 0 (by omega) (by simp)
    · rw [loop_num _ _ _ _ (by omega), List.drop_zero] at hp
      exact hp
    · rintro i v hi hv hc
      have hil : i < s.data.toList.length := by omega
      have hd : dig s.data.toList[i] := (of_decide_eq_true hc) hil
      have e : s.data.toList.getD i 0 = s.data.toList[i] := by rw [List.getD_eq_getElem?_getD, List.getElem?_eq_getElem hil]; rfl
      have hd' := hd
      unfold dig at hd'
      have h10 : 10 ^ i ≤ 10 ^ 10 := Nat.pow_le_pow_right (by decide) (by omega)
      have hb : v < 10000000000 := Nat.lt_of_lt_of_le hv h10
      rw [e]
      refine ⟨by rw [Nat.pow_succ]; omega, fun r hr => Ev.step (fun k => spec_l01Number.l0.eq_2 _ _ _ _) ?_⟩
      rw [bt_nat hi]
      refine Ev.ite_pos (by omega) (Ev.ite_pos (ge0 _) (Ev.ite_neg (by omega) (Ev.ite_neg (by omega) ?_)))
      rw [w64_succ (by omega), w64 (x := 10 * (v : Int)) (by omega) (by omega), Int.emod_eq_of_lt (by omega) (by omega), w64 (by omega) (by omega), show 10 * (v : Int) + ((s.data.toList[i].toNat : Int) - 48) = ((10 * v + (s.data.toList[i].toNat - 48) : Nat) : Int) by omega]
      exact hr
    · rintro i v hi hv hc
      have hil : i < s.data.toList.length := by omega
      have hd : ¬ dig s.data.toList[i] := fun h_ => by rw [decide_eq_true (fun _ => h_)] at hc; cases hc
      unfold dig at hd
      refine Ev.step (fun k => spec_l01Number.l0.eq_2 _ _ _ _) ?_
      rw [bt_nat hi]
      refine Ev.ite_pos (by omega) (Ev.ite_pos (ge0 _) ?_)
      by_cases h48 : ((s.data.toList[i].toNat : Int)) < 48
      · exact Ev.ite_pos h48 (Ev.now _)
      · exact Ev.ite_neg h48 (Ev.ite_pos (by omega) (Ev.now _))
    · intro v _
      exact Ev.step (fun k => spec_l01Number.l0.eq_2 _ _ _ _) (Ev.ite_neg (by omega) (Ev.now _))
  unfold numV
  by_cases h0 : s.data.toList = []
  · rw [if_neg (fun h_ => h_.1.1 h0)]
    exact Ev.ite_pos (by rw [ByteArray.toList_eq]; exact h0) no
  · have hpos : 0 < s.data.toList.length := List.length_pos_iff.2 h0
    refine Ev.ite_neg (by rw [ByteArray.toList_eq]; exact h0) ?_
    by_cases h10 : s.size ≤ 10
    · refine Ev.ite_neg (by omega) (Ev.ite_pos (by omega) ?_)
      have hbt : bt s 0 = ((s.data.toList[0]'hpos).toNat : Int) := bt_nat (i := 0) (by omega)
      have hhd : s.data.toList.head? = some (s.data.toList[0]'hpos) := by rw [List.head?_eq_getElem?, List.getElem?_eq_getElem hpos]
      by_cases h48 : bt s 0 = 48
      · have hx : s.data.toList[0]'hpos = 48 := UInt8.toNat_inj.1 (by rw [hbt] at h48; show _ = 48; omega)
        refine Ev.ite_pos h48 ?_
        by_cases h1 : (s.size : Int) > 1
        · rw [decide_eq_true h1, if_neg (fun h_ => by have := h_.1.2.2 (by rw [hhd, hx]); omega)]
          exact no
        · rw [decide_eq_false h1]
          refine Ev.eq_ (yes h10) ?_
          by_cases ha : ∀ c ∈ s.data.toList, dig c
          · rw [if_pos ha, if_pos ⟨⟨h0, ha, fun _ => by omega⟩, by omega⟩]
          · rw [if_neg ha, if_neg (fun h_ => ha h_.1.2.1)]
      · refine Ev.ite_neg h48 (Ev.eq_ (yes h10) ?_)
        have hx : s.data.toList[0]'hpos ≠ 48 := fun e => h48 (by rw [hbt, e]; rfl)
        by_cases ha : ∀ c ∈ s.data.toList, dig c
        · rw [if_pos ha, if_pos ⟨⟨h0, ha, fun e => by rw [hhd] at e; exact absurd (Option.some.inj e) hx⟩, by omega⟩]
        · rw [if_neg ha, if_neg (fun h_ => ha h_.1.2.1)]
    · rw [if_neg (fun h_ => h10 (by omega))]
      exact Ev.ite_pos (by omega) no
def wordV (w : List UInt8) : Option S35 := match cuts 120 w with
  | [a, b] => if Numl a ∧ val 0 a ≤ 20 ∧ Numl b ∧ val 0 b ≤ 60 then some ⟨(val 0 a : Int), (val 0 b : Int)⟩ else none
  | _ => none
def readV : List (List UInt8) → List S35 → List S35 × Int
  | [], out => if settsB out = true then (out, 0) else ([], 5)
  | w :: ws, out => match wordV w with
    | some s => readV ws (out ++ [s])
    | none => ([], 5)
theorem readV_yes {w a b : List UInt8} (h : cuts 120 w = [a, b]) (c : Numl a ∧ val 0 a ≤ 20 ∧ Numl b ∧ val 0 b ≤ 60) (ws : List (List UInt8)) (out : List S35) : readV (w :: ws) out = readV ws (out ++ [⟨(val 0 a : Int), (val 0 b : Int)⟩]) := by
  rw [readV, wordV, h]
  simp only
  rw [if_pos c]
theorem readV_no {w : List UInt8} (h : ∀ a b, cuts 120 w = [a, b] → ¬ (Numl a ∧ val 0 a ≤ 20 ∧ Numl b ∧ val 0 b ≤ 60)) (ws : List (List UInt8)) (out : List S35) : readV (w :: ws) out = ([], 5) := by
  have : wordV w = none := by
    unfold wordV
    split
    · rename_i a b e
      rw [if_neg (h a b e)]
    · rfl
  rw [readV, this]
theorem wr8 {n : Nat} (h : n ≤ 20) : IntKind.i8.wrap (n : Int) = n := by
  unfold IntKind.wrap
  simp [IntKind.signed, IntKind.bits]
  omega
theorem wr16 {n : Nat} (h : n ≤ 60) : IntKind.i16.wrap (n : Int) = n := by
  unfold IntKind.wrap
  simp [IntKind.signed, IntKind.bits]
  omega
theorem asB_len (l : List (List UInt8)) : (asB l).length = l.length := by simp [asB]
theorem asB_rd {l : List (List UInt8)} {i : Nat} (h : i < l.length) : rdOf ByteArray.empty (asB l) (i : Int) = ⟨(l[i]).toArray⟩ := by
  unfold rdOf asB
  rw [Int.toNat_natCast, List.getD_eq_getElem?_getD, List.getElem?_map, List.getElem?_eq_getElem h]
  rfl
theorem asB_data (l : List UInt8) : (⟨l.toArray⟩ : ByteArray).data.toList = l := rfl
theorem asB_size (l : List UInt8) : (⟨l.toArray⟩ : ByteArray).size = l.length := by simp [ByteArray.size]
theorem numl_len {l : List UInt8} (h : Numl l) (hv : val 0 l ≤ 60) : l.length ≤ 10 := by
  have h1 := dec_len 9 (val 0 l) (by omega)
  rw [dec_val _ l rfl h] at h1
  omega
theorem cuts_mem (c : UInt8) : ∀ (l : List UInt8) (p : List UInt8), p ∈ cuts c l → p.length ≤ l.length
  | [], p, h => by simp [cuts] at h; simp [h]
  | x :: r, p, h => by
    have ih := cuts_mem c r
    unfold cuts at h
    split at h
    · rcases List.mem_cons.1 h with rfl | h
      · simp
      · have := ih p h; simp; omega
    · split at h
      · rename_i a t e
        rcases List.mem_cons.1 h with rfl | h
        · have := ih a (by rw [e]; simp); simp; omega
        · have := ih p (by rw [e]; simp [h]); simp; omega
      · obtain rfl := List.mem_singleton.1 h
        simp
theorem cuts_two {c : UInt8} {l a b : List UInt8} {t : List (List UInt8)} (h : cuts c l = a :: b :: t) : cuts c (l.drop (a.length + 1)) = b :: t := by
  rcases index_split l c with ⟨_, hm⟩ | ⟨i, _, hl, hm, he⟩
  · rw [cuts_no hm] at h; cases h
  · have h2 : cuts c l = l.take i :: cuts c (l.drop (i + 1)) := by
      conv => lhs; rw [he]
      exact cuts_hit hm
    rw [h2] at h
    injection h with h3 h4
    rw [← h3, List.length_take, Nat.min_eq_left (by omega)]
    exact h4
theorem cuts_mem_of_two {c : UInt8} {l a b : List UInt8} {t : List (List UInt8)} (h : cuts c l = a :: b :: t) : c ∈ l := by
  rcases index_split l c with ⟨_, hm⟩ | ⟨i, _, hl, hm, he⟩
  · rw [cuts_no hm] at h; cases h
  · rw [he]; simp
theorem cuts_one {c : UInt8} {l b : List UInt8} (h : cuts c l = [b]) : l = b := by
  rcases index_split l c with ⟨_, hm⟩ | ⟨i, _, hl, hm, he⟩
  · rw [cuts_no hm] at h; injection h
  · have h2 : cuts c l = l.take i :: cuts c (l.drop (i + 1)) := by
      conv => lhs; rw [he]
      exact cuts_hit hm
    rw [h2] at h
    injection h with h3 h4
    exact absurd h4 (cuts_ne _ _)
theorem numl_no {l : List UInt8} (h : Numl l) : (120 : UInt8) ∉ l := fun hm => by
  have := h.2.1 _ hm
  unfold dig at this
  exact absurd this.2 (by decide)
/-- The reference's reading. -/
theorem specRead (ws : List (List UInt8)) (hw : ∀ w ∈ ws, w.length ≤ 1048576) (hl : ws.length ≤ 2097152) : ∀ d i out, i + d = ws.length → out.length ≤ i →
    Ev (fun k => spec_ReadSetts.l0 k out (asB ws) (i : Int)) (readV (ws.drop i) out)
  | 0, i, out, hi, ho => by
    obtain rfl : i = ws.length := by omega
    rw [List.drop_length]
    refine Ev.step (fun k => spec_ReadSetts.l0.eq_2 _ _ _ _) (Ev.ite_neg (by rw [asB_len]; omega) (Ev.bind (specSetts out (by omega)) ?_))
    unfold readV
    exact Ev.if_ (fun h => Ev.ite_pos h (Ev.now _)) (fun h => Ev.ite_neg h (Ev.now _))
  | d + 1, i, out, hi, ho => by
    have hil : i < ws.length := by omega
    have hwl := hw ws[i] (List.getElem_mem hil)
    rw [List.drop_eq_getElem_cons hil]
    refine Ev.step (fun k => spec_ReadSetts.l0.eq_2 _ _ _ _) (Ev.ite_pos (by rw [asB_len]; omega) (Ev.ite_pos (ge0 _) ?_))
    rw [asB_rd hil]
    refine Ev.bind (specSplit ⟨(ws[i]).toArray⟩ 120 (by rw [asB_size]; omega)) ?_
    rw [asB_data]
    generalize hcu : cuts 120 ws[i] = cu
    have hm : ∀ p ∈ cu, p.length ≤ 1048576 := fun p hp => Nat.le_trans (cuts_mem 120 ws[i] p (by rw [hcu]; exact hp)) hwl
    match cu, hm, hcu with
    | [], _, hcu => exact absurd hcu (cuts_ne _ _)
    | [a], _, hcu => rw [readV_no (fun a b e => by rw [hcu] at e; cases e)]; exact Ev.ite_neg (by simp [asB]) (Ev.now _)
    | a :: b :: c :: t, _, hcu => rw [readV_no (fun a b e => by rw [hcu] at e; cases e)]; exact Ev.ite_neg (by rw [asB_len]; simp only [List.length_cons]; omega) (Ev.now _)
    | [a, b], hm, hcu =>
      have no : ¬ (Numl a ∧ val 0 a ≤ 20 ∧ Numl b ∧ val 0 b ≤ 60) → readV (ws[i] :: ws.drop (i + 1)) out = ([], 5) := fun c => readV_no (fun a' b' e => by rw [hcu] at e; injection e with e1 e2; injection e2 with e2 _; subst e1 e2; exact c) _ _
      refine Ev.ite_pos (by simp [asB]) (Ev.ite_pos (by simp [asB]) ?_)
      have r0 : rdOf ByteArray.empty (asB [a, b]) 0 = ⟨a.toArray⟩ := rfl
      have r1 : rdOf ByteArray.empty (asB [a, b]) 1 = ⟨b.toArray⟩ := rfl
      rw [r0, r1]
      refine Ev.bind (specNumber ⟨a.toArray⟩) (Ev.ite_pos (by simp [asB]) (Ev.bind (specNumber ⟨b.toArray⟩) ?_))
      rw [asB_data, asB_data]
      unfold numV
      by_cases ha : Numl a ∧ a.length ≤ 10
      · rw [if_pos ha]
        refine Ev.ite_pos rfl ?_
        by_cases hb : Numl b ∧ b.length ≤ 10
        · rw [if_pos hb]
          refine Ev.ite_pos rfl ?_
          show Ev (fun k => if ((val 0 a : Int)) > 20 then _ else _) _
          by_cases h1 : ((val 0 a : Int)) > 20
          · rw [no (fun h_ => by omega)]
            exact Ev.ite_pos h1 (Ev.now _)
          · refine Ev.ite_neg h1 ?_
            show Ev (fun k => if ((val 0 b : Int)) > 60 then _ else _) _
            by_cases h2 : ((val 0 b : Int)) > 60
            · rw [no (fun h_ => by omega)]
              exact Ev.ite_pos h2 (Ev.now _)
            · rw [readV_yes hcu ⟨ha.1, by omega, hb.1, by omega⟩]
              refine Ev.ite_neg h2 (Ev.ite_pos (by omega) ?_)
              rw [w64_succ (by omega), wr8 (by omega), wr16 (by omega)]
              exact specRead ws hw hl d (i + 1) _ (by omega) (by simp; omega)
        · rw [if_neg hb, no (fun h_ => hb ⟨h_.2.2.1, numl_len h_.2.2.1 h_.2.2.2⟩)]
          exact Ev.ite_neg (by decide) (Ev.now _)
      · rw [if_neg ha, no (fun h_ => ha ⟨h_.1, numl_len h_.1 (by omega)⟩)]
        exact Ev.ite_neg (by decide) (Ev.now _)
theorem implNumber (l : List UInt8) (most : Nat) (hm : most < 1000000000) (hl : l.length ≤ 1048576) : impl_number.f ⟨l.toArray⟩ (most : Int) = some (if Numl l ∧ val 0 l ≤ most then ((val 0 l : Int), true) else (0, false)) := by
  unfold impl_number.f
  rw [if_pos (by rw [asB_size]; omega)]
  congr 1
  exact number_eq ⟨l.toArray⟩ most hm _ rfl
/-- The program's reading. -/
theorem implRead (ws : List (List UInt8)) (hw : ∀ w ∈ ws, w.length ≤ 1048576) (hl : ws.length ≤ 2097152) : ∀ d i out, i + d = ws.length → out.length ≤ i →
    Ev (fun k => impl_ReadSetts.l0 k out (asB ws) (ws.length : Int) (i : Int)) (readV (ws.drop i) out)
  | 0, i, out, hi, ho => by
    obtain rfl : i = ws.length := by omega
    rw [List.drop_length]
    refine Ev.step (fun k => impl_ReadSetts.l0.eq_2 _ _ _ _ _) (Ev.ite_neg (by omega) (Ev.bind (implSetts out (by omega)) ?_))
    unfold readV
    exact Ev.if_ (fun h => Ev.ite_pos h (Ev.now _)) (fun h => Ev.ite_neg h (Ev.now _))
  | d + 1, i, out, hi, ho => by
    have hil : i < ws.length := by omega
    have hwl := hw ws[i] (List.getElem_mem hil)
    rw [List.drop_eq_getElem_cons hil]
    refine Ev.step (fun k => impl_ReadSetts.l0.eq_2 _ _ _ _ _) (Ev.ite_pos (by omega) (Ev.ite_pos (ge0 _) (Ev.ite_pos (by rw [asB_len]; omega) ?_)))
    rw [asB_rd hil]
    have hcut : strings_Cut.f ⟨(ws[i]).toArray⟩ ⟨#[120]⟩ = some (⟨(Go.Lib.cut ws[i] [120]).1.toArray⟩, ⟨(Go.Lib.cut ws[i] [120]).2.1.toArray⟩, (Go.Lib.cut ws[i] [120]).2.2) := by
      unfold strings_Cut.f
      rw [if_pos (by rw [asB_size]; omega)]
    have hce := cut_eq ws[i] 120
    generalize hcu : cuts 120 ws[i] = cu at hce
    have hm : ∀ p ∈ cu, p.length ≤ 1048576 := fun p hp => Nat.le_trans (cuts_mem 120 ws[i] p (by rw [hcu]; exact hp)) hwl
    match cu, hm, hcu, hce with
    | [], _, hcu, _ => exact absurd hcu (cuts_ne _ _)
    | [a], _, hcu, hce =>
      rw [show Go.Lib.cut ws[i] [120] = (ws[i], [], false) from hce] at hcut
      rw [readV_no (fun a b e => by rw [hcu] at e; cases e)]
      refine Ev.call hcut ?_
      exact Ev.call (implNumber _ 20 (by decide) hwl) (Ev.call (implNumber [] 60 (by decide) (by simp)) (Ev.ite_neg (by simp) (Ev.now _)))
    | a :: b :: c :: t, hm, hcu, hce =>
      rw [show Go.Lib.cut ws[i] [120] = (a, ws[i].drop (a.length + 1), true) from hce] at hcut
      rw [readV_no (fun a b e => by rw [hcu] at e; cases e)]
      refine Ev.call hcut ?_
      have hd := cuts_two hcu
      have hx := cuts_mem_of_two hd
      have hdl : (ws[i].drop (a.length + 1)).length ≤ 1048576 := by rw [List.length_drop]; omega
      refine Ev.call (implNumber a 20 (by decide) (hm a (by simp))) (Ev.call (implNumber _ 60 (by decide) hdl) (Ev.ite_pos rfl ?_))
      rw [if_neg (c := Numl (ws[i].drop (a.length + 1)) ∧ _) (fun h_ => numl_no h_.1 hx)]
      by_cases h1 : Numl a ∧ val 0 a ≤ 20
      · rw [if_pos h1]
        exact Ev.ite_pos rfl (Ev.ite_neg (by decide) (Ev.now _))
      · rw [if_neg h1]
        exact Ev.ite_neg (by decide) (Ev.now _)
    | [a, b], hm, hcu, hce =>
      have no : ¬ (Numl a ∧ val 0 a ≤ 20 ∧ Numl b ∧ val 0 b ≤ 60) → readV (ws[i] :: ws.drop (i + 1)) out = ([], 5) := fun c => readV_no (fun a' b' e => by rw [hcu] at e; injection e with e1 e2; injection e2 with e2 _; subst e1 e2; exact c) _ _
      have hb := cuts_one (cuts_two hcu)
      rw [show Go.Lib.cut ws[i] [120] = (a, b, true) by rw [← hb]; exact hce] at hcut
      refine Ev.call hcut ?_
      refine Ev.call (implNumber a 20 (by decide) (hm a (by simp))) (Ev.call (implNumber b 60 (by decide) (hm b (by simp))) (Ev.ite_pos rfl ?_))
      by_cases h1 : Numl a ∧ val 0 a ≤ 20
      · rw [if_pos h1]
        refine Ev.ite_pos rfl ?_
        by_cases h2 : Numl b ∧ val 0 b ≤ 60
        · rw [if_pos h2, readV_yes hcu ⟨h1.1, h1.2, h2.1, h2.2⟩]
          refine Ev.ite_pos rfl (Ev.ite_pos (by omega) ?_)
          rw [w64_succ (by omega), wr8 h1.2, wr16 h2.2]
          exact implRead ws hw hl d (i + 1) _ (by omega) (by simp; omega)
        · rw [if_neg h2, no (fun h_ => h2 ⟨h_.2.2.1, h_.2.2.2⟩)]
          exact Ev.ite_neg (by decide) (Ev.now _)
      · rw [if_neg h1, no (fun h_ => h1 ⟨h_.1, h_.2.1⟩)]
        exact Ev.ite_neg (by decide) (Ev.now _)
def markAt (j : Nat) : S35 := ⟨IntKind.i8.wrap (1 + 2 * (j : Int)), IntKind.i16.wrap (1 + 2 * (j : Int) + 1)⟩
def marked (n : Nat) : List S35 := (List.range n).map markAt
theorem marked_len (n : Nat) : (marked n).length = n := by simp [marked]
theorem marked_get {n i : Nat} (h : i < (marked n).length) : (marked n)[i] = markAt i := by simp [marked]
theorem markSetts (l : List S35) (h : l.length ≤ 2097152) : Ev (fun k => laws_markSettS.f k l 1) (1 + 2 * (l.length : Int), marked l.length) := by
  unfold laws_markSettS.f
  have hm := marked_len l.length
  have h0 := Ev.run (L := fun k (s : List S35) (i : Nat) => laws_markSettS.l0 k s (1 + 2 * (i : Int)) i) l.length (fun i s => s.set i (markAt i)) (fun i s => s.length = l.length ∧ s.take i = (marked l.length).take i) (1 + 2 * (l.length : Int), marked l.length) ?_ ?_ (d := l.length) (i := 0) (s := l) (by omega) ⟨rfl, by simp⟩
  · simpa using h0
  · rintro i s hi ⟨h1, h2⟩
    refine ⟨⟨by simpa using h1, ?_⟩, fun r hr => Ev.step (fun k => laws_markSettS.l0.eq_2 _ _ _ _) ?_⟩
    · show (s.set i (markAt i)).take (i + 1) = _
      rw [← marked_get (n := l.length) (i := i) (by omega)]
      exact take_set_succ (by omega) (by omega) h2
    · refine Ev.ite_pos (by omega) (Ev.ite_pos (ge0 _) (Ev.call rfl ?_))
      rw [w64_succ (by omega), Int.toNat_natCast, List.set_set]
      have e1 : wrap64 (1 + 2 * (i : Int) + 1) = 1 + 2 * (i : Int) + 1 := w64 (by omega) (by omega)
      rw [e1, w64 (by omega) (by omega), show 1 + 2 * (i : Int) + 1 + 1 = 1 + 2 * ((i + 1 : Nat) : Int) by omega]
      have e2 : (rd_T35 (s.set i ⟨IntKind.i8.wrap (1 + 2 * (i : Int)), (rd_T35 s (i : Int)).f1⟩) (i : Int)).f0 = IntKind.i8.wrap (1 + 2 * (i : Int)) := by
        rw [rdIT_get (by simp; omega), List.getElem_set_self]
      rw [e2]
      exact hr
  · rintro s ⟨h1, h2⟩
    refine Ev.step (fun k => laws_markSettS.l0.eq_2 _ _ _ _) (Ev.ite_neg (by omega) ?_)
    rw [List.take_of_length_le (by omega), List.take_of_length_le (by omega)] at h2
    rw [h2]
    exact Ev.now _
theorem heldSetts (n : Nat) (h : n ≤ 2097152) : Ev (fun k => laws_heldSettS.f k (marked n) 1) (1 + 2 * (n : Int)) := by
  unfold laws_heldSettS.f
  have hm := marked_len n
  have h0 := Ev.run (L := fun k (_ : Unit) (i : Nat) => laws_heldSettS.l0 k (marked n) (1 + 2 * (i : Int)) i) n (fun _ s => s) (fun _ _ => True) (1 + 2 * (n : Int)) ?_ ?_ (d := n) (i := 0) (s := ()) (by omega) trivial
  · simpa using h0
  · rintro i s hi _
    have e1 : wrap64 (1 + 2 * (i : Int) + 1) = 1 + 2 * (i : Int) + 1 := w64 (by omega) (by omega)
    refine ⟨trivial, fun r hr => Ev.step (fun k => laws_heldSettS.l0.eq_2 _ _ _ _) ?_⟩
    rw [rdIT_get (by omega), marked_get, w64_succ (by omega), e1, w64 (by omega) (by omega), show 1 + 2 * (i : Int) + 1 + 1 = 1 + 2 * ((i + 1 : Nat) : Int) by omega]
    exact Ev.ite_pos (by omega) (Ev.ite_pos (ge0 _) (Ev.ite_pos rfl (Ev.ite_pos rfl hr)))
  · intro s _
    exact Ev.step (fun k => laws_heldSettS.l0.eq_2 _ _ _ _) (Ev.ite_neg (by omega) (Ev.now _))
theorem readV_len : ∀ (ws : List (List UInt8)) (out : List S35), (readV ws out).1.length ≤ out.length + ws.length
  | [], out => by unfold readV; split <;> simp
  | w :: ws, out => by
    unfold readV
    split
    · have := readV_len ws (out ++ [‹_›]); simp at this ⊢; omega
    · simp
theorem pure_FnExactReadSetts : Pure.FnExactReadSetts := by
  rintro s hs
  refine Ev.rounds (g := fun k => laws_FnExactReadSetts.f k s) ?_
  unfold laws_FnExactReadSetts.f
  by_cases h : (s.size : Int) > 1048576
  · exact Ev.ite_pos h (Ev.now _)
  · refine Ev.ite_neg h ?_
    have hsz := size_toList s
    have hl := cuts_len 32 s.data.toList
    have hw : ∀ w ∈ cuts 32 s.data.toList, w.length ≤ 1048576 := fun w hw => Nat.le_trans (cuts_mem 32 _ w hw) (by omega)
    have hS : Ev (fun k => spec_ReadSetts.f k s) (readV (cuts 32 s.data.toList) []) := by
      unfold spec_ReadSetts.f
      exact Ev.bind (specSplit s 32 (by omega)) (specRead _ hw (by omega) (cuts 32 s.data.toList).length 0 [] (by omega) (Nat.le_refl _))
    have hI : Ev (fun k => impl_ReadSetts.f k s) (readV (cuts 32 s.data.toList) []) := by
      unfold impl_ReadSetts.f
      have hsp : strings_Split.f s ⟨#[32]⟩ = some (asB (cuts 32 s.data.toList)) := by
        unfold strings_Split.f
        rw [if_pos ⟨by omega, by decide⟩, splitB_cuts]
      refine Ev.call hsp ?_
      rw [asB_len]
      exact implRead _ hw (by omega) (cuts 32 s.data.toList).length 0 [] (by omega) (Nat.le_refl _)
    have hlen := readV_len (cuts 32 s.data.toList) []
    rw [List.length_nil, Nat.zero_add] at hlen
    generalize readV (cuts 32 s.data.toList) [] = R at *
    refine Ev.bind hS (Ev.bind hI (Ev.bind (eqSetts _ (by omega)) (Ev.ite_pos rfl ?_)))
    rw [show (R.2 != R.2) = false by simp]
    refine Ev.step (fun k => laws_FnExactReadSetts.j0.eq_2 _ _ _ _ _ _) (Ev.ite_neg (by decide) (Ev.bind (markSetts R.1 (by omega)) (Ev.bind (heldSetts _ (by omega)) (Ev.ite_neg (by omega) (Ev.ite_pos rfl (Ev.bind hI (Ev.bind (eqSetts _ (by omega)) (Ev.ite_pos rfl ?_))))))))
    rw [show (R.2 != R.2) = false by simp]
    exact Ev.step (fun k => laws_FnExactReadSetts.j1.eq_2 _ _ _ _) (Ev.ite_neg (by decide) (Ev.bind (heldSetts _ (by omega)) (Ev.ite_neg (by omega) (Ev.ite_pos rfl (Ev.now _)))))
end Go.Proofs.YtebdblefhkcpeaaDoor.Q
