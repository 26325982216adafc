/- The law on LayRow answers true for every input, and each argument reads afterwards as it did; no condition. -/
import Derived.Test.YtnabkphkdkdigaaRows
import Derived.Test.YtnabkphkdkdigaaQLawLayRow
import Derived.Test.YtnabkphkdkdigaaQPureFnExactLayRow
import Derived.WalkKit
import Derived.ProofKit
import Derived.OpenShut
import Derived.ShutString
import Derived.ChangeOld
import Derived.Below
import Derived.SizedLaws
namespace Go.Proofs.Ytnabkphkdkdigaa.Q.fnExactLayRow
open Go.ChangeShapes Go.WideShapes Go.ChangeAt Go.RowKit
open Go.ChangeMaps (open_string shut_string)
set_option linter.unusedVariables false
set_option linter.unusedSimpArgs false
theorem own : ownKnob Try.prog.godebug = none := by kernel_rfl
theorem laidOut : laidOutB Try.prog = true := by kernel_rfl
set_option maxRecDepth 100000 in
theorem lifted (os : Os) (started : os.Started) (H : Type) (enc : TypeId × Value → H) :
    ReturnsInHanded {} Try.checked os 4 .any (Rows.fnExactLayRowSpec.pre6 enc Try.prog Try.f4 Rows.fnExactLayRowRow.domain false) (Rows.fnExactLayRowSpec.post enc Try.prog Try.f4 false true false false) := by
  refine returnsInHanded_of_change_sized (C := Try.checked) own started (by kernel_rfl) Try.func4
    (ChangeSpec.witness6 (enc := enc) (C := Try.checked) false ⟨#[], #[.slice none 0 0, .slice none 0 0], []⟩ 8 (by kernel_rfl) (by kernel_rfl) (by kernel_rfl) (by kernel_rfl)) ?_
  intro W base args ds gs before hval0 hW hcnd hsz0 _
  have hval : ∀ (j : Nat) t v, Try.f4.params[j]? = some t → args[j]? = some v → Value.okWide Try.prog W .any base t v := hval0
  have hW' := hW
  obtain ⟨p, q, hA0, hV, rfl, hfz, hnd⟩ := hW
  have hA : DataW.TrodAll enc Try.prog W 0 (fun _ => true) true Try.f4.params.toList args.toList ds p := hA0
  rw [Try.params4] at hA hval
  obtain ⟨v0, vs0, d0, ds0, p0, q0, hargs, rfl, rfl, h0, r0⟩ := trodAll_cons hA
  obtain ⟨v1, vs1, d1, ds1, p1, q1, rfl, rfl, rfl, h1, r1⟩ := trodAll_cons r0
  obtain ⟨rfl, rfl, rfl⟩ := trodAll_nil r1
  obtain rfl : args = #[v0, v1] := by cases args; simp_all
  obtain ⟨rfl, rfl⟩ := trodVars_none hV
  have k0 := h0
  have lt0 : ∀ x ∈ p0, x.block < W.heap.size := by obtain ⟨m, hm⟩ := k0; exact DataW.trod_lt m _ _ _ hm
  obtain ⟨fu0, hf0⟩ := h0
  obtain ⟨x0, w0, K0⟩ := (opens_slice Try.underlying22 opens45 (by kernel_rfl)) enc W 0 _ _ fu0 _ _ hf0
  obtain ⟨a0, c0, e0, hc0, hr0⟩ := K0
  obtain ⟨a_0, len_0, cap_0, rfl⟩ := okWide_slice Try.underlying22 (hval 0 22 v0 rfl rfl)
  replace e0 : [Value.slice a_0 len_0 cap_0] = [Value.slice a0 x0.length c0] := e0
  injection e0 with e0 _
  injection e0 with ea0 el0 ec0
  subst ea0 el0 ec0
  have k1 := h1
  have lt1 : ∀ x ∈ p1, x.block < W.heap.size := by obtain ⟨m, hm⟩ := k1; exact DataW.trod_lt m _ _ _ hm
  obtain ⟨fu1, hf1⟩ := h1
  obtain ⟨x1, w1, K1⟩ := (opens_slice Try.underlying24 (opens_int Try.underlying2) (by kernel_rfl)) enc W 0 _ _ fu1 _ _ hf1
  obtain ⟨a1, c1, e1, hc1, hr1⟩ := K1
  obtain ⟨a_1, len_1, cap_1, rfl⟩ := okWide_slice Try.underlying24 (hval 1 24 v1 rfl rfl)
  replace e1 : [Value.slice a_1 len_1 cap_1] = [Value.slice a1 x1.length c1] := e1
  injection e1 with e1 _
  injection e1 with ea1 el1 ec1
  subst ea1 el1 ec1
  clear hA0 hval0 hsz0
  obtain ⟨kk, hk⟩ := Ytnabkphkdkdigaa.Q.pure_FnExactLayRow x0 x1 w0 w1
  refine (laws_FnExactLayRow.calls kk a_0 cap_0 x0 a_1 cap_1 x1 W hr0 hc0 hr1 hc1 hk).mono fun e W' ⟨he, bel0⟩ => ?_
  have bel : Below W.heap.size W W' := bel0
  subst he
  exact ⟨_, rfl, _, _, _, [], _, [], hW', trodAll_mk1 (shut_bool Try.underlying4 _), (trodAll_cons_mk (Below.trod laidOut (by kernel_rfl) (of_decide_eq_true (by kernel_rfl)) k0 bel lt0) (trodAll_cons_mk (Below.trod laidOut (by kernel_rfl) (of_decide_eq_true (by kernel_rfl)) k1 bel lt1) trodAll_mk0)), rfl, bel.frame _, fun h => by cases h⟩
theorem over : Rows.fnExactLayRowRow.holds Try.pinned (OpenSpec.ofChange Rows.fnExactLayRowSpec) :=
  OpenClaim.holds_of_wide 4 Try.f4 rfl rfl rfl rfl rfl rfl rfl ⟨rfl, rfl, rfl, rfl, rfl⟩ rfl rfl rfl rfl rfl (by kernel_rfl) Try.func4 (by kernel_rfl)
    (of_decide_eq_true (by kernel_rfl)) (by unfold Func.isWrapper; first | (rw [if_pos (by decide +kernel)]; kernel_rfl) | (rw [if_neg (by decide +kernel)]; exact ⟨rfl, rfl⟩))
    (fun os started H enc _ => lifted os started H enc)
end Go.Proofs.Ytnabkphkdkdigaa.Q.fnExactLayRow
namespace Go.Proofs.Ytnabkphkdkdigaa
/-- The row of FnExactLayRow, for the claim. -/
theorem fnExactLayRow_holds : Rows.FnExactLayRowSaid := Q.fnExactLayRow.over
#print axioms fnExactLayRow_holds
end Go.Proofs.Ytnabkphkdkdigaa
