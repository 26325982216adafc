-- By a program of this session's, out of the translation (with the kit's print). Lean checks it.
import Derived.Test.YtnabkphkdkdigaaQ0
import Derived.Test.YtnabkphkdkdigaaQ6
import Derived.Test.YtnabkphkdkdigaaQ7
import Derived.Test.YtnabkphkdkdigaaQLayB
namespace Go.Proofs.Ytnabkphkdkdigaa.Q
open Go.RowKit Go.Proofs.YtnabkphkdkdigaaW.PrintWords Go.Proofs.YtnabkphkdkdigaaW.PrintLast Go.Proofs.YtnabkphkdkdigaaW.PrintMore
attribute [local go_sem] max2_int min2_int max_two min_two max_three min_three max_four min_four
set_option linter.unusedVariables false
set_option linter.unusedSimpArgs false

/-! ### impl_LayRow: function 16 -/
/- It calls slices_Clone_int64_int64.f and impl_size_int64.f too. -/
def impl_LayRow.f (k : Nat) (l : List S43) (c : List Int) : Option (List Int × Int) :=
  (impl_ValidSetts.f k l).bind fun b => if b = true then (if c.length = l.length then ((slices_ContainsFunc_int64_int64_at_impl_LayRow_1.f k c).bind fun t => if t = true then some ([], 2) else if Ly.ok l c then (if (List.range c.length).any (Ly.big l c) = true then some ([], 4) else (Ly.laps l c.sum k (c, [])).bind fun o => some (o, 0)) else none) else some ([], 2)) else some ([], 1)
theorem Ly.laps_mono (L : List S43) (many : Int) : ∀ k st, LeO (Ly.laps L many k st) (Ly.laps L many (k + 1) st)
  | 0, st => fun r h => by simp [Ly.laps] at h
  | k + 1, st => by
    intro r h
    rw [Ly.laps] at h ⊢
    by_cases c : (st.2.length : Int) < many
    · rw [if_pos c] at h ⊢
      exact Ly.laps_mono L many k _ r h
    · rw [if_neg c] at h ⊢
      exact h
theorem impl_LayRow.mono : ∀ a0 a1 k, LeO (impl_LayRow.f k a0 a1) (impl_LayRow.f (k + 1) a0 a1) := by
  intro a0 a1 k
  unfold impl_LayRow.f
  refine LeO.bind (impl_ValidSetts.mono _ _) (fun b => ?_)
  by_cases hb : b = true
  · rw [if_pos hb, if_pos hb]
    by_cases hc : a1.length = a0.length
    · rw [if_pos hc, if_pos hc]
      refine LeO.bind (slices_ContainsFunc_int64_int64_at_impl_LayRow_1.mono _ _) (fun t => ?_)
      by_cases ht : t = true
      · rw [if_pos ht, if_pos ht]; exact LeO.refl _
      · rw [if_neg ht, if_neg ht]
        by_cases ho : Ly.ok a0 a1
        · rw [if_pos ho, if_pos ho]
          by_cases hg : (List.range a1.length).any (Ly.big a0 a1) = true
          · rw [if_pos hg, if_pos hg]; exact LeO.refl _
          · rw [if_neg hg, if_neg hg]; exact LeO.bind (Ly.laps_mono _ _ _ _) (fun _ => LeO.refl _)
        · rw [if_neg ho, if_neg ho]; exact LeO.refl _
    · rw [if_neg hc, if_neg hc]; exact LeO.refl _
  · rw [if_neg hb, if_neg hb]; exact LeO.refl _
set_option maxRecDepth 100000 in
set_option maxHeartbeats 4000000 in
theorem impl_LayRow.calls (k : Nat) (A0 : Option Addr) (c0 : Nat) (l0 : List (S43)) (A1 : Option Addr) (c1 : Nat) (l1 : List Int) (r1 : List Int) (r2 : Int) (w : World) (hr0 : Kd.C k43 w A0 l0.length l0) (hc0 : l0.length ≤ c0) (hr1 : Kd.C (Kd.int .i64) w A1 l1.length l1) (hc1 : l1.length ≤ c1) (h : impl_LayRow.f k l0 l1 = some (r1, r2)) :
    Calls Try.prog 16 #[.slice A0 l0.length c0, .slice A1 l1.length c1] w fun e w' => ∃ v0_ : Value, e = .returned (.tuple #[v0_, .int .i64 r2]) ∧ Kd.R (Kd.int .i64) 2 w' w.heap.size (fun _ => True) v0_ r1 ∧ Below w.heap.size w w' := by
  unfold impl_LayRow.f at h
  replace h := Option.bind_eq_some_iff.mp h
  obtain ⟨b, hv, h⟩ := h
  by_cases hb : b = true
  · subst hb
    rw [if_pos rfl] at h
    by_cases hc : l1.length = l0.length
    · rw [if_pos hc] at h
      replace h := Option.bind_eq_some_iff.mp h
      obtain ⟨t, hct, h⟩ := h
      by_cases ht : t = true
      · subst ht
        rw [if_pos rfl] at h
        obtain ⟨rfl, rfl⟩ : [] = r1 ∧ 2 = r2 := by simpa using h
        have d1 : ((l1.length : Int) == (l0.length : Int)) = true := by simp [hc]
        have d2 : ((l1.length : Int) != (l0.length : Int)) = false := by simp [hc]
        have HR0 := Aside0.mk hr0
        have HC0 := Aside0.mk hc0
        have HR1 := Aside0.mk hr1
        have HC1 := Aside0.mk hc1
        have HV := Aside0.mk hv
        have HCT := Aside0.mk hct
        clear hr0 hc0 hr1 hc1 hv hct h hc
        go_enter Try.func16, Try.ntmps16
        go_wp2_with (first | (go_at_call 26; (with_reducible refine (impl_ValidSetts.calls k A0 c0 l0 true _ HR0.out HC0.out HV.out).mono ?_); rintro e w1 ⟨rfl, hb1⟩; have HB1 := Aside0.mk hb1; clear hb1) | (go_at_call 27; (with_reducible refine (slices_ContainsFunc_int64_int64_at_impl_LayRow_1.calls k A1 c1 l1 true _ (Kd.C_below HR1.out HB1.out) HC1.out HCT.out).mono ?_); rintro e w2 ⟨rfl, ⟨nd, rfl⟩⟩))
        go_ret2
        exact ⟨_, rfl, Kd.R_nil _ _ _ _ _, pw_below_drewN HB1.out _⟩
      · obtain rfl : t = false := by simpa using ht
        rw [if_neg (by decide)] at h
        by_cases ho : Ly.ok l0 l1
        · rw [if_pos ho] at h
          obtain ⟨ad, rfl, _⟩ := hr0.2.2 ho.1
          exact (callsIn_wide (n := 6)).1 (Ly.walk k ad c0 l0 A1 c1 l1 r1 r2 w hr0 hc0 hr1 hc1 hv hct ho h)
        · rw [if_neg ho] at h
          cases h
    · rw [if_neg hc] at h
      obtain ⟨rfl, rfl⟩ : [] = r1 ∧ 2 = r2 := by simpa using h
      have hc' : ¬ (l1.length : Int) = (l0.length : Int) := by omega
      have d1 : ((l1.length : Int) == (l0.length : Int)) = false := by simpa using hc'
      have d2 : ((l1.length : Int) != (l0.length : Int)) = true := by simpa using hc'
      have HR0 := Aside0.mk hr0
      have HC0 := Aside0.mk hc0
      have HR1 := Aside0.mk hr1
      have HC1 := Aside0.mk hc1
      have HV := Aside0.mk hv
      clear hr0 hc0 hr1 hc1 hv h hc hc'
      go_enter Try.func16, Try.ntmps16
      go_wp2_with (first | (go_at_call 26; (with_reducible refine (impl_ValidSetts.calls k A0 c0 l0 true _ HR0.out HC0.out HV.out).mono ?_); rintro e w1 ⟨rfl, hb1⟩; have HB1 := Aside0.mk hb1; clear hb1))
      go_ret2
      exact ⟨_, rfl, Kd.R_nil _ _ _ _ _, HB1.out⟩
  · obtain rfl : b = false := by simpa using hb
    rw [if_neg (by decide)] at h
    obtain ⟨rfl, rfl⟩ : [] = r1 ∧ 1 = r2 := by simpa using h
    have HR0 := Aside0.mk hr0
    have HC0 := Aside0.mk hc0
    have HV := Aside0.mk hv
    clear hr0 hc0 hr1 hc1 hv h
    go_enter Try.func16, Try.ntmps16
    go_wp2_with (first | (go_at_call 26; (with_reducible refine (impl_ValidSetts.calls k A0 c0 l0 false _ HR0.out HC0.out HV.out).mono ?_); rintro e w1 ⟨rfl, hb1⟩; have HB1 := Aside0.mk hb1; clear hb1))
    go_ret2
    exact ⟨_, rfl, Kd.R_nil _ _ _ _ _, HB1.out⟩

end Go.Proofs.Ytnabkphkdkdigaa.Q
