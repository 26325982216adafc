-- By a program of this session's, out of the translation (with the kit's print). Lean checks it.
import Derived.Test.YtnabkphkdkdigaaQ0
import Derived.Test.YtnabkphkdkdigaaQ7
import Derived.Test.YtnabkphkdkdigaaQCutC
namespace Go.Proofs.Ytnabkphkdkdigaa.Q
open Go.RowKit Go.Proofs.YtnabkphkdkdigaaW.PrintWords Go.Proofs.YtnabkphkdkdigaaW.PrintLast Go.Proofs.YtnabkphkdkdigaaW.PrintMore
attribute [local go_sem] max2_int min2_int max_two min_two max_three min_three max_four min_four
set_option linter.unusedVariables false
set_option linter.unusedSimpArgs false

/-! ### impl_CutRow: function 8 -/
def impl_CutRow.f (k : Nat) (l0 : List S43) (a1 a2 : Int) : Option (List Int × Int × Int) :=
  (impl_rowCode.f k l0 a1 a2).bind fun c => if c ≠ 0 then some ([], 0, c) else if Cr.ok l0 a1 a2 then some (Cr.res l0 a1 a2) else none
theorem impl_CutRow.mono : ∀ a0 a1 a2 k, LeO (impl_CutRow.f k a0 a1 a2) (impl_CutRow.f (k + 1) a0 a1 a2) := by
  intro a0 a1 a2 k
  unfold impl_CutRow.f
  exact LeO.bind (impl_rowCode.mono _ _ _ _) (fun _ => LeO.refl _)
set_option maxRecDepth 100000 in
set_option maxHeartbeats 4000000 in
theorem Cr.bad (k : Nat) (A0 : Option Addr) (c0 : Nat) (L : List S43) (a1 a2 c : Int) (w : World) (hr0 : Kd.C k43 w A0 L.length L) (hc0 : L.length ≤ c0) (hcode : impl_rowCode.f k L a1 a2 = some c) (hne : c ≠ 0) :
    Calls Try.prog 8 #[.slice A0 L.length c0, .int .i64 a1, .int .i64 a2] w fun e w' => ∃ v0_ : Value, e = .returned (.tuple #[v0_, .int .i64 0, .int .i64 c]) ∧ Kd.R (Kd.int .i64) 2 w' w.heap.size (fun _ => True) v0_ [] ∧ Below w.heap.size w w' := by
  have HR0 := Aside0.mk hr0
  have HC0 := Aside0.mk hc0
  have HK := Aside0.mk hcode
  clear hr0 hc0 hcode
  have d1 : (c == 0) = false := by simpa using hne
  have d2 : (c != 0) = true := by simpa using hne
  go_enter Try.func8, Try.ntmps8
  go_wp2_with (go_at_call 21; refine (impl_rowCode.calls k A0 c0 L a1 a2 c _ (Kd.C_alloc HR0.out _) HC0.out HK.out).mono ?_; rintro e w1 ⟨rfl, hb1⟩; have HB1 := Lib.hid (((Below.refl w.heap.size w).alloc (Nat.le_refl _) (.cells #[.int .i64 a2] 2)).trans (hb1.mono (by simp))); clear hb1)
  go_ret3
  exact ⟨_, rfl, Kd.R_nil _ _ _ _ _, HB1.out⟩
theorem impl_CutRow.calls (k : Nat) (A0 : Option Addr) (c0 : Nat) (l0 : List (S43)) (a1 : Int) (a2 : Int) (r1 : List Int) (r2 : Int) (r3 : Int) (w : World) (hr0 : Kd.C k43 w A0 l0.length l0) (hc0 : l0.length ≤ c0) (h : impl_CutRow.f k l0 a1 a2 = some (r1, r2, r3)) :
    Calls Try.prog 8 #[.slice A0 l0.length c0, .int .i64 a1, .int .i64 a2] w fun e w' => ∃ v0_ : Value, e = .returned (.tuple #[v0_, .int .i64 r2, .int .i64 r3]) ∧ Kd.R (Kd.int .i64) 2 w' w.heap.size (fun _ => True) v0_ r1 ∧ Below w.heap.size w w' := by
  unfold impl_CutRow.f at h
  cases hc : impl_rowCode.f k l0 a1 a2 with
  | none => rw [hc] at h; cases h
  | some c =>
    rw [hc, Option.bind_some] at h
    by_cases h0 : c = 0
    · subst h0
      rw [if_neg (by simp)] at h
      by_cases hok : Cr.ok l0 a1 a2
      · rw [if_pos hok] at h
        obtain ⟨ad, rfl, _⟩ := hr0.2.2 hok.1
        have hw := (callsIn_wide (n := 6)).1 (Cr.walk k ad c0 l0 a1 a2 w hr0 hc0 hc hok)
        have e := Option.some.inj h
        rw [e] at hw
        exact hw
      · rw [if_neg hok] at h
        cases h
    · rw [if_pos h0] at h
      obtain ⟨rfl, rfl, rfl⟩ : [] = r1 ∧ 0 = r2 ∧ c = r3 := by simpa using h
      exact Cr.bad k A0 c0 l0 a1 a2 c w hr0 hc0 hc h0

end Go.Proofs.Ytnabkphkdkdigaa.Q
