-- By a program of this session's, out of the translation (with the kit's print). Lean checks it.
import Derived.Test.YtnabkphkdkdigaaQ0
import Derived.Test.YtnabkphkdkdigaaQ4
import Derived.Test.YtnabkphkdkdigaaQ8
import Derived.Test.YtnabkphkdkdigaaQHInts
import Derived.Test.YtnabkphkdkdigaaQHSett
namespace Go.Proofs.Ytnabkphkdkdigaa.Q
open Go.RowKit Go.Proofs.YtnabkphkdkdigaaW.PrintWords Go.Proofs.YtnabkphkdkdigaaW.PrintLast Go.Proofs.YtnabkphkdkdigaaW.PrintMore
attribute [local go_sem] max2_int min2_int max_two min_two max_three min_three max_four min_four
set_option linter.unusedVariables false
set_option linter.unusedSimpArgs false

/-! ### laws_FnExactCutRow: function 3 -/
mutual
def laws_FnExactCutRow.j0 : Nat → List (S45) → Int → Int → List Int → Int → Int → List (S43) → List Int → Int → Int → Bool → Option (Bool)
  | 0, _, _, _, _, _, _, _, _, _, _, _ => none
  | k + 1, x0, x1, x2, x8, x9, x10, x11, x12, x13, x14, x58 => if x58 = true then (some false) else ((laws_toSettS.f k x0).bind fun t186 => ((laws_eqSettS.f k x11 t186).bind fun t189 => (if t189 = true then ((laws_markSettS.f k x11 1).bind fun bt190 => (if bt190.1 < 0 then (laws_FnExactCutRow.j1 k x0 x1 x2 x8 x9 x10 x12 true) else ((laws_eqInt64S.f k x12 x8).bind fun t192 => (if t192 = true then (if x13 = x9 then (laws_FnExactCutRow.j1 k x0 x1 x2 x8 x9 x10 x12 (x14 != x10)) else (laws_FnExactCutRow.j1 k x0 x1 x2 x8 x9 x10 x12 true)) else (laws_FnExactCutRow.j1 k x0 x1 x2 x8 x9 x10 x12 true))))) else (some false))))
def laws_FnExactCutRow.j1 : Nat → List (S45) → Int → Int → List Int → Int → Int → List Int → Bool → Option (Bool)
  | 0, _, _, _, _, _, _, _, _ => none
  | k + 1, x0, x1, x2, x8, x9, x10, x12, x84 => if x84 = true then (some false) else ((laws_markInt64S.f k x12 1).bind fun bt193 => ((laws_heldInt64S.f k bt193.2 1).bind fun t195 => (if t195 < 0 then (some false) else (if t195 = bt193.1 then ((laws_toSettS.f k x0).bind fun t196 => ((impl_CutRow.f k t196 x1 x2).bind fun bt199 => ((laws_eqInt64S.f k bt199.1 x8).bind fun t204 => (if t204 = true then (if bt199.2.1 = x9 then (laws_FnExactCutRow.j2 k bt193.2 bt193.1 (bt199.2.2 != x10)) else (laws_FnExactCutRow.j2 k bt193.2 bt193.1 true)) else (laws_FnExactCutRow.j2 k bt193.2 bt193.1 true))))) else (some false)))))
def laws_FnExactCutRow.j2 : Nat → List Int → Int → Bool → Option (Bool)
  | 0, _, _, _ => none
  | k + 1, x12, x16, x118 => if x118 = true then (some false) else ((laws_heldInt64S.f k x12 1).bind fun t205 => (if t205 < 0 then (some false) else (if t205 = x16 then (some true) else (some false))))
end
def laws_FnExactCutRow.f (k : Nat) (l0 : List (S45)) (a1 : Int) (a2 : Int) : Option (Bool) := (laws_szSettS.f l0 1048576).bind fun t168 => (if t168 < 0 then (some true) else ((laws_toSettS.f k l0).bind fun t169 => ((spec_CutRow.f k t169 a1 a2).bind fun bt172 => ((laws_toSettS.f k l0).bind fun t177 => ((impl_CutRow.f k t177 a1 a2).bind fun bt180 => ((laws_eqInt64S.f k bt180.1 bt172.1).bind fun t185 => (if t185 = true then (if bt180.2.1 = bt172.2.1 then (laws_FnExactCutRow.j0 k l0 a1 a2 bt172.1 bt172.2.1 bt172.2.2 t177 bt180.1 bt180.2.1 bt180.2.2 (bt180.2.2 != bt172.2.2)) else (laws_FnExactCutRow.j0 k l0 a1 a2 bt172.1 bt172.2.1 bt172.2.2 t177 bt180.1 bt180.2.1 bt180.2.2 true)) else (laws_FnExactCutRow.j0 k l0 a1 a2 bt172.1 bt172.2.1 bt172.2.2 t177 bt180.1 bt180.2.1 bt180.2.2 true))))))))
theorem laws_FnExactCutRow.mono_l : ∀ k, (∀ y0 y1 y2 y3 y4 y5 y6 y7 y8 y9 y10, LeO (laws_FnExactCutRow.j0 k y0 y1 y2 y3 y4 y5 y6 y7 y8 y9 y10) (laws_FnExactCutRow.j0 (k + 1) y0 y1 y2 y3 y4 y5 y6 y7 y8 y9 y10)) ∧ (∀ y0 y1 y2 y3 y4 y5 y6 y7, LeO (laws_FnExactCutRow.j1 k y0 y1 y2 y3 y4 y5 y6 y7) (laws_FnExactCutRow.j1 (k + 1) y0 y1 y2 y3 y4 y5 y6 y7)) ∧ (∀ y0 y1 y2, LeO (laws_FnExactCutRow.j2 k y0 y1 y2) (laws_FnExactCutRow.j2 (k + 1) y0 y1 y2))
  | 0 => ⟨fun _ _ _ _ _ _ _ _ _ _ _ r h => by simp [laws_FnExactCutRow.j0] at h, fun _ _ _ _ _ _ _ _ r h => by simp [laws_FnExactCutRow.j1] at h, fun _ _ _ r h => by simp [laws_FnExactCutRow.j2] at h⟩
  | k + 1 => by
    obtain ⟨ih0, ih1, ih2⟩ := laws_FnExactCutRow.mono_l k
    refine ⟨?_, ?_, ?_⟩
    · intro y0 y1 y2 y3 y4 y5 y6 y7 y8 y9 y10
      unfold laws_FnExactCutRow.j0
      repeat' first
      | (with_reducible exact ih0 _ _ _ _ _ _ _ _ _ _ _)
      | (with_reducible exact ih1 _ _ _ _ _ _ _ _)
      | (with_reducible exact ih2 _ _ _)
      | (with_reducible exact impl_CutRow.mono _ _ _ _)
      | (with_reducible exact laws_eqInt64S.mono _ _ _)
      | (with_reducible exact laws_eqSettS.mono _ _ _)
      | (with_reducible exact laws_heldInt64S.mono _ _ _)
      | (with_reducible exact laws_markInt64S.mono _ _ _)
      | (with_reducible exact laws_markSettS.mono _ _ _)
      | (with_reducible exact laws_toSettS.mono _ _)
      | (with_reducible exact spec_CutRow.mono _ _ _ _)
      | (with_reducible exact LeO.refl _)
      | (with_reducible exact LeO.none _)
      | (with_reducible refine LeO.ite ?_ ?_)
      | (with_reducible refine LeO.bind ?_ (fun _ => ?_))
      | exact ih0 _ _ _ _ _ _ _ _ _ _ _
      | exact ih1 _ _ _ _ _ _ _ _
      | exact ih2 _ _ _
      | exact impl_CutRow.mono _ _ _ _
      | exact laws_eqInt64S.mono _ _ _
      | exact laws_eqSettS.mono _ _ _
      | exact laws_heldInt64S.mono _ _ _
      | exact laws_markInt64S.mono _ _ _
      | exact laws_markSettS.mono _ _ _
      | exact laws_toSettS.mono _ _
      | exact spec_CutRow.mono _ _ _ _
      | exact LeO.none _
      | refine LeO.ite ?_ ?_
      | refine LeO.bind ?_ (fun _ => ?_)
    · intro y0 y1 y2 y3 y4 y5 y6 y7
      unfold laws_FnExactCutRow.j1
      repeat' first
      | (with_reducible exact ih0 _ _ _ _ _ _ _ _ _ _ _)
      | (with_reducible exact ih1 _ _ _ _ _ _ _ _)
      | (with_reducible exact ih2 _ _ _)
      | (with_reducible exact impl_CutRow.mono _ _ _ _)
      | (with_reducible exact laws_eqInt64S.mono _ _ _)
      | (with_reducible exact laws_eqSettS.mono _ _ _)
      | (with_reducible exact laws_heldInt64S.mono _ _ _)
      | (with_reducible exact laws_markInt64S.mono _ _ _)
      | (with_reducible exact laws_markSettS.mono _ _ _)
      | (with_reducible exact laws_toSettS.mono _ _)
      | (with_reducible exact spec_CutRow.mono _ _ _ _)
      | (with_reducible exact LeO.refl _)
      | (with_reducible exact LeO.none _)
      | (with_reducible refine LeO.ite ?_ ?_)
      | (with_reducible refine LeO.bind ?_ (fun _ => ?_))
      | exact ih0 _ _ _ _ _ _ _ _ _ _ _
      | exact ih1 _ _ _ _ _ _ _ _
      | exact ih2 _ _ _
      | exact impl_CutRow.mono _ _ _ _
      | exact laws_eqInt64S.mono _ _ _
      | exact laws_eqSettS.mono _ _ _
      | exact laws_heldInt64S.mono _ _ _
      | exact laws_markInt64S.mono _ _ _
      | exact laws_markSettS.mono _ _ _
      | exact laws_toSettS.mono _ _
      | exact spec_CutRow.mono _ _ _ _
      | exact LeO.none _
      | refine LeO.ite ?_ ?_
      | refine LeO.bind ?_ (fun _ => ?_)
    · intro y0 y1 y2
      unfold laws_FnExactCutRow.j2
      repeat' first
      | (with_reducible exact ih0 _ _ _ _ _ _ _ _ _ _ _)
      | (with_reducible exact ih1 _ _ _ _ _ _ _ _)
      | (with_reducible exact ih2 _ _ _)
      | (with_reducible exact impl_CutRow.mono _ _ _ _)
      | (with_reducible exact laws_eqInt64S.mono _ _ _)
      | (with_reducible exact laws_eqSettS.mono _ _ _)
      | (with_reducible exact laws_heldInt64S.mono _ _ _)
      | (with_reducible exact laws_markInt64S.mono _ _ _)
      | (with_reducible exact laws_markSettS.mono _ _ _)
      | (with_reducible exact laws_toSettS.mono _ _)
      | (with_reducible exact spec_CutRow.mono _ _ _ _)
      | (with_reducible exact LeO.refl _)
      | (with_reducible exact LeO.none _)
      | (with_reducible refine LeO.ite ?_ ?_)
      | (with_reducible refine LeO.bind ?_ (fun _ => ?_))
      | exact ih0 _ _ _ _ _ _ _ _ _ _ _
      | exact ih1 _ _ _ _ _ _ _ _
      | exact ih2 _ _ _
      | exact impl_CutRow.mono _ _ _ _
      | exact laws_eqInt64S.mono _ _ _
      | exact laws_eqSettS.mono _ _ _
      | exact laws_heldInt64S.mono _ _ _
      | exact laws_markInt64S.mono _ _ _
      | exact laws_markSettS.mono _ _ _
      | exact laws_toSettS.mono _ _
      | exact spec_CutRow.mono _ _ _ _
      | exact LeO.none _
      | refine LeO.ite ?_ ?_
      | refine LeO.bind ?_ (fun _ => ?_)
theorem laws_FnExactCutRow.mono : ∀ a0 a1 a2 k, LeO (laws_FnExactCutRow.f k a0 a1 a2) (laws_FnExactCutRow.f (k + 1) a0 a1 a2) := by
  intro a0 a1 a2 k
  obtain ⟨ih0, ih1, ih2⟩ := laws_FnExactCutRow.mono_l k
  unfold laws_FnExactCutRow.f
  repeat' first
      | (with_reducible exact ih0 _ _ _ _ _ _ _ _ _ _ _)
      | (with_reducible exact ih1 _ _ _ _ _ _ _ _)
      | (with_reducible exact ih2 _ _ _)
      | (with_reducible exact impl_CutRow.mono _ _ _ _)
      | (with_reducible exact laws_eqInt64S.mono _ _ _)
      | (with_reducible exact laws_eqSettS.mono _ _ _)
      | (with_reducible exact laws_heldInt64S.mono _ _ _)
      | (with_reducible exact laws_markInt64S.mono _ _ _)
      | (with_reducible exact laws_markSettS.mono _ _ _)
      | (with_reducible exact laws_toSettS.mono _ _)
      | (with_reducible exact spec_CutRow.mono _ _ _ _)
      | (with_reducible exact LeO.refl _)
      | (with_reducible exact LeO.none _)
      | (with_reducible refine LeO.ite ?_ ?_)
      | (with_reducible refine LeO.bind ?_ (fun _ => ?_))
      | exact ih0 _ _ _ _ _ _ _ _ _ _ _
      | exact ih1 _ _ _ _ _ _ _ _
      | exact ih2 _ _ _
      | exact impl_CutRow.mono _ _ _ _
      | exact laws_eqInt64S.mono _ _ _
      | exact laws_eqSettS.mono _ _ _
      | exact laws_heldInt64S.mono _ _ _
      | exact laws_markInt64S.mono _ _ _
      | exact laws_markSettS.mono _ _ _
      | exact laws_toSettS.mono _ _
      | exact spec_CutRow.mono _ _ _ _
      | exact LeO.none _
      | refine LeO.ite ?_ ?_
      | refine LeO.bind ?_ (fun _ => ?_)
set_option maxHeartbeats 8000000 in
set_option maxRecDepth 100000 in
theorem laws_FnExactCutRow.calls (k : Nat) (A0 : Option Addr) (c0 : Nat) (l0 : List (S45)) (a1 : Int) (a2 : Int) (w : World) (hr0 : Kd.C k45 w A0 l0.length l0) (hc0 : l0.length ≤ c0) (h : laws_FnExactCutRow.f k l0 a1 a2 = some true) :
    Calls Try.prog 3 #[.slice A0 l0.length c0, .int .i64 a1, .int .i64 a2] w fun e w' => e = .returned (.bool true) ∧ Below w.heap.size w w' := by
  have HR0 := Aside0.mk hr0
  have HC0 := Aside0.mk hc0
  clear hr0 hc0
  have HB := Aside0.mk (Below.refl w.heap.size w)
  have H : ((laws_szSettS.f l0 1048576).bind fun t168 => (if t168 < 0 then (some true) else ((laws_toSettS.f k l0).bind fun t169 => ((spec_CutRow.f k t169 a1 a2).bind fun bt172 => ((laws_toSettS.f k l0).bind fun t177 => ((impl_CutRow.f k t177 a1 a2).bind fun bt180 => ((laws_eqInt64S.f k bt180.1 bt172.1).bind fun t185 => (if t185 = true then (if bt180.2.1 = bt172.2.1 then (laws_FnExactCutRow.j0 k l0 a1 a2 bt172.1 bt172.2.1 bt172.2.2 t177 bt180.1 bt180.2.1 bt180.2.2 (bt180.2.2 != bt172.2.2)) else (laws_FnExactCutRow.j0 k l0 a1 a2 bt172.1 bt172.2.1 bt172.2.2 t177 bt180.1 bt180.2.1 bt180.2.2 true)) else (laws_FnExactCutRow.j0 k l0 a1 a2 bt172.1 bt172.2.1 bt172.2.2 t177 bt180.1 bt180.2.1 bt180.2.2 true))))))))) = some true := h
  clear h
  replace H := Option.bind_eq_some_iff.mp H
  obtain ⟨t168, A40, H⟩ := H
  replace H : (if t168 < 0 then (some true) else ((laws_toSettS.f k l0).bind fun t169 => ((spec_CutRow.f k t169 a1 a2).bind fun bt172 => ((laws_toSettS.f k l0).bind fun t177 => ((impl_CutRow.f k t177 a1 a2).bind fun bt180 => ((laws_eqInt64S.f k bt180.1 bt172.1).bind fun t185 => (if t185 = true then (if bt180.2.1 = bt172.2.1 then (laws_FnExactCutRow.j0 k l0 a1 a2 bt172.1 bt172.2.1 bt172.2.2 t177 bt180.1 bt180.2.1 bt180.2.2 (bt180.2.2 != bt172.2.2)) else (laws_FnExactCutRow.j0 k l0 a1 a2 bt172.1 bt172.2.1 bt172.2.2 t177 bt180.1 bt180.2.1 bt180.2.2 true)) else (laws_FnExactCutRow.j0 k l0 a1 a2 bt172.1 bt172.2.1 bt172.2.2 t177 bt180.1 bt180.2.1 bt180.2.2 true)))))))) = some true := H
  have A4 := Aside0.mk A40
  clear A40
  by_cases c5 : t168 < 0
  · rw [if_pos c5] at H
    have c5b0 : decide (t168 < 0) = true := decide_eq_true c5
    clear c5
    clear H
    go_enter Try.func3, Try.ntmps3
    go_wp2_with (first | ((with_reducible refine gate_callee (f := 5) rfl ?_); refine goesL_ (some 23) rfl rfl Try.func5 (by kernel_rfl) rfl #[.slice A0 l0.length c0, .int .i64 1048576] rfl (by (try simp only [List.map_toArray, List.map_cons, List.map_nil]); first | done | rfl | (simp only [List.length_drop, List.length_take]; rfl)) ?_; (with_reducible refine (laws_szSettS.calls _ _ l0 1048576 t168 _ ?side1 ?side2 A4.out).mono ?_); (case side1 => repeat (first | exact HR0.out | (with_reducible refine Kd.C_alloc ?_ _) | (with_reducible refine Kd.C_drewN ?_ _) | (with_reducible refine Kd.C_drew ?_))); (case side2 => exact HC0.out); rintro e w' ⟨rfl, ⟨nd, rfl⟩⟩; refine ⟨_, rfl, ?_⟩))
    go_ret
    exact ⟨by first | rfl | (simp [errW_none, errW_some] <;> rfl) | (simp [*, errW_none, errW_some] <;> rfl), by repeat (first | (with_reducible first | exact HB.out | apply below_alloc | apply pw_below_drewN | apply below_drew1) | exact HB.out)⟩
  · rw [if_neg c5] at H
    have c5b0 : decide (t168 < 0) = false := decide_eq_false c5
    clear c5
    replace H := Option.bind_eq_some_iff.mp H
    obtain ⟨t169, A60, H⟩ := H
    replace H : ((spec_CutRow.f k t169 a1 a2).bind fun bt172 => ((laws_toSettS.f k l0).bind fun t177 => ((impl_CutRow.f k t177 a1 a2).bind fun bt180 => ((laws_eqInt64S.f k bt180.1 bt172.1).bind fun t185 => (if t185 = true then (if bt180.2.1 = bt172.2.1 then (laws_FnExactCutRow.j0 k l0 a1 a2 bt172.1 bt172.2.1 bt172.2.2 t177 bt180.1 bt180.2.1 bt180.2.2 (bt180.2.2 != bt172.2.2)) else (laws_FnExactCutRow.j0 k l0 a1 a2 bt172.1 bt172.2.1 bt172.2.2 t177 bt180.1 bt180.2.1 bt180.2.2 true)) else (laws_FnExactCutRow.j0 k l0 a1 a2 bt172.1 bt172.2.1 bt172.2.2 t177 bt180.1 bt180.2.1 bt180.2.2 true)))))) = some true := H
    have A6 := Aside0.mk A60
    clear A60
    replace H := Option.bind_eq_some_iff.mp H
    obtain ⟨⟨t172, t173, t174⟩, A70, H⟩ := H
    replace H : ((laws_toSettS.f k l0).bind fun t177 => ((impl_CutRow.f k t177 a1 a2).bind fun bt180 => ((laws_eqInt64S.f k bt180.1 t172).bind fun t185 => (if t185 = true then (if bt180.2.1 = t173 then (laws_FnExactCutRow.j0 k l0 a1 a2 t172 t173 t174 t177 bt180.1 bt180.2.1 bt180.2.2 (bt180.2.2 != t174)) else (laws_FnExactCutRow.j0 k l0 a1 a2 t172 t173 t174 t177 bt180.1 bt180.2.1 bt180.2.2 true)) else (laws_FnExactCutRow.j0 k l0 a1 a2 t172 t173 t174 t177 bt180.1 bt180.2.1 bt180.2.2 true))))) = some true := H
    have A7 := Aside0.mk A70
    clear A70
    replace H := Option.bind_eq_some_iff.mp H
    obtain ⟨t177, A80, H⟩ := H
    replace H : ((impl_CutRow.f k t177 a1 a2).bind fun bt180 => ((laws_eqInt64S.f k bt180.1 t172).bind fun t185 => (if t185 = true then (if bt180.2.1 = t173 then (laws_FnExactCutRow.j0 k l0 a1 a2 t172 t173 t174 t177 bt180.1 bt180.2.1 bt180.2.2 (bt180.2.2 != t174)) else (laws_FnExactCutRow.j0 k l0 a1 a2 t172 t173 t174 t177 bt180.1 bt180.2.1 bt180.2.2 true)) else (laws_FnExactCutRow.j0 k l0 a1 a2 t172 t173 t174 t177 bt180.1 bt180.2.1 bt180.2.2 true)))) = some true := H
    have A8 := Aside0.mk A80
    clear A80
    replace H := Option.bind_eq_some_iff.mp H
    obtain ⟨⟨t180, t181, t182⟩, A90, H⟩ := H
    replace H : ((laws_eqInt64S.f k t180 t172).bind fun t185 => (if t185 = true then (if t181 = t173 then (laws_FnExactCutRow.j0 k l0 a1 a2 t172 t173 t174 t177 t180 t181 t182 (t182 != t174)) else (laws_FnExactCutRow.j0 k l0 a1 a2 t172 t173 t174 t177 t180 t181 t182 true)) else (laws_FnExactCutRow.j0 k l0 a1 a2 t172 t173 t174 t177 t180 t181 t182 true))) = some true := H
    have A9 := Aside0.mk A90
    clear A90
    have HC10 := Aside0.mk H
    clear H
    go_enter Try.func3, Try.ntmps3
    go_upto_region 8 with (first | ((with_reducible refine gate_callee (f := 5) rfl ?_); refine goesL_ (some 23) rfl rfl Try.func5 (by kernel_rfl) rfl #[.slice A0 l0.length c0, .int .i64 1048576] rfl (by (try simp only [List.map_toArray, List.map_cons, List.map_nil]); first | done | rfl | (simp only [List.length_drop, List.length_take]; rfl)) ?_; (with_reducible refine (laws_szSettS.calls _ _ l0 1048576 t168 _ ?side1 ?side2 A4.out).mono ?_); (case side1 => repeat (first | exact HR0.out | (with_reducible refine Kd.C_alloc ?_ _) | (with_reducible refine Kd.C_drewN ?_ _) | (with_reducible refine Kd.C_drew ?_))); (case side2 => exact HC0.out); rintro e w' ⟨rfl, ⟨nd, rfl⟩⟩; refine ⟨_, rfl, ?_⟩) | ((with_reducible refine gate_callee (f := 7) rfl ?_); refine goesL_ (some 28) rfl rfl Try.func7 (by kernel_rfl) rfl #[.slice A0 l0.length c0] rfl (by (try simp only [List.map_toArray, List.map_cons, List.map_nil]); first | done | rfl | (simp only [List.length_drop, List.length_take]; rfl)) ?_; (with_reducible refine (laws_toSettS.calls k _ _ l0 t169 _ ?side1 ?side2 A6.out).mono ?_); (case side1 => repeat (first | exact HR0.out | (with_reducible refine Kd.C_alloc ?_ _) | (with_reducible refine Kd.C_drewN ?_ _) | (with_reducible refine Kd.C_drew ?_))); (case side2 => exact HC0.out); rintro e w11 ⟨v170, rfl, ho0, hb⟩; refine ⟨_, rfl, ?_⟩; have n0_ := Aside0.mk (Kd.R_lower ho0 (below_size (by repeat (first | (with_reducible first | exact HB.out | apply below_alloc | apply pw_below_drewN | apply below_drew1) | exact HB.out)))); have n1_ := Aside0.mk (below_step (by repeat (first | (with_reducible first | exact HB.out | apply below_alloc | apply pw_below_drewN | apply below_drew1) | exact HB.out)) hb); clear HB; have HO171 := n0_; have HB := n1_; clear n0_ n1_; (try clear hb); (try clear hb2); (try clear hk); (try clear hi); (try clear ho0); obtain ⟨Ao12, co12, eo12⟩ := Kd.R_slice HO171.out; subst eo12) | ((with_reducible refine gate_callee (f := 6) rfl ?_); refine goesL_ (some 31) rfl rfl Try.func6 (by kernel_rfl) rfl #[.slice Ao12 t169.length co12, .int .i64 a1, .int .i64 a2] rfl (by (try simp only [List.map_toArray, List.map_cons, List.map_nil]); first | done | rfl | (simp only [List.length_drop, List.length_take]; rfl)) ?_; (with_reducible refine (spec_CutRow.calls k _ _ t169 a1 a2 t172 t173 t174 _ ?side1 ?side2 A7.out).mono ?_); (case side1 => repeat (first | exact (Kd.R_reads' HO171.out).2.2 | (with_reducible refine Kd.C_alloc ?_ _) | (with_reducible refine Kd.C_drewN ?_ _) | (with_reducible refine Kd.C_drew ?_))); (case side2 => exact (Kd.R_reads' HO171.out).2.1); rintro e w13 ⟨v175, rfl, ho0, hb⟩; refine ⟨_, rfl, ?_⟩; have n0_ := Aside0.mk (Kd.R_below (by (with_reducible repeat (first | apply Kd.R_alloc | apply Kd.R_drewN | apply Kd.R_drew)); exact HO171.out) hb); have n1_ := Aside0.mk (Kd.R_lower ho0 (below_size (by repeat (first | (with_reducible first | exact HB.out | apply below_alloc | apply pw_below_drewN | apply below_drew1) | exact HB.out)))); have n2_ := Aside0.mk (below_step (by repeat (first | (with_reducible first | exact HB.out | apply below_alloc | apply pw_below_drewN | apply below_drew1) | exact HB.out)) hb); clear HO171; clear HB; have HO171 := n0_; have HO176 := n1_; have HB := n2_; clear n0_ n1_ n2_; (try clear hb); (try clear hb2); (try clear hk); (try clear hi); (try clear ho0)) | ((with_reducible refine gate_callee (f := 7) rfl ?_); refine goesL_ (some 36) rfl rfl Try.func7 (by kernel_rfl) rfl #[.slice A0 l0.length c0] rfl (by (try simp only [List.map_toArray, List.map_cons, List.map_nil]); first | done | rfl | (simp only [List.length_drop, List.length_take]; rfl)) ?_; (with_reducible refine (laws_toSettS.calls k _ _ l0 t177 _ ?side1 ?side2 A8.out).mono ?_); (case side1 => repeat (first | exact (Kd.C_below HR0.out HB.out) | (with_reducible refine Kd.C_alloc ?_ _) | (with_reducible refine Kd.C_drewN ?_ _) | (with_reducible refine Kd.C_drew ?_))); (case side2 => exact HC0.out); rintro e w14 ⟨v178, rfl, ho0, hb⟩; refine ⟨_, rfl, ?_⟩; have n0_ := Aside0.mk (Kd.R_elder' (by (with_reducible repeat (first | apply Kd.R_alloc | apply Kd.R_drewN | apply Kd.R_drew)); exact HO171.out) (Kd.R_base ho0) hb); have n1_ := Aside0.mk (Kd.R_below (by (with_reducible repeat (first | apply Kd.R_alloc | apply Kd.R_drewN | apply Kd.R_drew)); exact HO176.out) hb); have n2_ := Aside0.mk (Kd.R_lower (Kd.R_new' ho0 (Kd.R_lt (by (with_reducible repeat (first | apply Kd.R_alloc | apply Kd.R_drewN | apply Kd.R_drew)); exact HO171.out))) (below_size (by repeat (first | (with_reducible first | exact HB.out | apply below_alloc | apply pw_below_drewN | apply below_drew1) | exact HB.out)))); have n3_ := Aside0.mk (below_step (by repeat (first | (with_reducible first | exact HB.out | apply below_alloc | apply pw_below_drewN | apply below_drew1) | exact HB.out)) hb); clear HO171; clear HO176; clear HB; have HO171 := n0_; have HO176 := n1_; have HO179 := n2_; have HB := n3_; clear n0_ n1_ n2_ n3_; (try clear hb); (try clear hb2); (try clear hk); (try clear hi); (try clear ho0); obtain ⟨Ao15, co15, eo15⟩ := Kd.R_slice HO179.out; subst eo15) | ((with_reducible refine gate_callee (f := 8) rfl ?_); refine goesL_ (some 41) rfl rfl Try.func8 (by kernel_rfl) rfl #[.slice Ao15 t177.length co15, .int .i64 a1, .int .i64 a2] rfl (by (try simp only [List.map_toArray, List.map_cons, List.map_nil]); first | done | rfl | (simp only [List.length_drop, List.length_take]; rfl)) ?_; (with_reducible refine (impl_CutRow.calls k _ _ t177 a1 a2 t180 t181 t182 _ ?side1 ?side2 A9.out).mono ?_); (case side1 => repeat (first | exact (Kd.R_reads' HO179.out).2.2 | (with_reducible refine Kd.C_alloc ?_ _) | (with_reducible refine Kd.C_drewN ?_ _) | (with_reducible refine Kd.C_drew ?_))); (case side2 => exact (Kd.R_reads' HO179.out).2.1); rintro e w16 ⟨v183, rfl, ho0, hb⟩; refine ⟨_, rfl, ?_⟩; have n0_ := Aside0.mk (Kd.R_below (by (with_reducible repeat (first | apply Kd.R_alloc | apply Kd.R_drewN | apply Kd.R_drew)); exact HO171.out) hb); have n1_ := Aside0.mk (Kd.R_elder' (by (with_reducible repeat (first | apply Kd.R_alloc | apply Kd.R_drewN | apply Kd.R_drew)); exact HO176.out) (Kd.R_base ho0) hb); have n2_ := Aside0.mk (Kd.R_below (by (with_reducible repeat (first | apply Kd.R_alloc | apply Kd.R_drewN | apply Kd.R_drew)); exact HO179.out) hb); have n3_ := Aside0.mk (Kd.R_lower (Kd.R_new' ho0 (Kd.R_lt (by (with_reducible repeat (first | apply Kd.R_alloc | apply Kd.R_drewN | apply Kd.R_drew)); exact HO176.out))) (below_size (by repeat (first | (with_reducible first | exact HB.out | apply below_alloc | apply pw_below_drewN | apply below_drew1) | exact HB.out)))); have n4_ := Aside0.mk (below_step (by repeat (first | (with_reducible first | exact HB.out | apply below_alloc | apply pw_below_drewN | apply below_drew1) | exact HB.out)) hb); clear HO171; clear HO176; clear HO179; clear HB; have HO171 := n0_; have HO176 := n1_; have HO179 := n2_; have HO184 := n3_; have HB := n4_; clear n0_ n1_ n2_ n3_ n4_; (try clear hb); (try clear hb2); (try clear hk); (try clear hi); (try clear ho0)))
    (try simp only [Act.put, List.setIfInBounds_toArray, List.set_cons_zero, List.set_cons_succ])
    go_cut [58] (fun v58 wc => ∃ (kq : Nat) (x58_9 : Bool), v58 = .bool x58_9 ∧ Aside0 (laws_FnExactCutRow.j0 kq l0 a1 a2 t172 t173 t174 t177 t180 t181 t182 x58_9 = some true) ∧ Aside0 (kq ≤ k) ∧ Aside0 (Kd.R (Kd.int .i64) 2 wc w.heap.size (fun k_ => some k_ ≠ (v183 : Value).ownBlock) v175 t172) ∧ Aside0 (Kd.R k43 43 wc w.heap.size (fun _ => True) (.slice Ao15 t177.length co15) t177) ∧ Aside0 (Kd.R (Kd.int .i64) 2 wc w.heap.size (fun k_ => some k_ ≠ (v175 : Value).ownBlock) v183 t180) ∧ Aside0 (Below w.heap.size w wc))
    case first =>
      have H := HC10.out
      clear HC10
      replace H := Option.bind_eq_some_iff.mp H
      obtain ⟨t185, A170, H⟩ := H
      replace H : (if t185 = true then (if t181 = t173 then (laws_FnExactCutRow.j0 k l0 a1 a2 t172 t173 t174 t177 t180 t181 t182 (t182 != t174)) else (laws_FnExactCutRow.j0 k l0 a1 a2 t172 t173 t174 t177 t180 t181 t182 true)) else (laws_FnExactCutRow.j0 k l0 a1 a2 t172 t173 t174 t177 t180 t181 t182 true)) = some true := H
      have A17 := Aside0.mk A170
      clear A170
      by_cases c18 : t185 = true
      · subst c18
        have H1 : (if t181 = t173 then (laws_FnExactCutRow.j0 k l0 a1 a2 t172 t173 t174 t177 t180 t181 t182 (t182 != t174)) else (laws_FnExactCutRow.j0 k l0 a1 a2 t172 t173 t174 t177 t180 t181 t182 true)) = some true := by rw [if_pos rfl] at H; exact H
        clear H
        have H := H1
        clear H1
        by_cases c19 : t181 = t173
        · rw [if_pos c19] at H
          have c19b0 : (t181 == t173) = true := beq_iff_eq.mpr c19
          have c19b1 : (t181 != t173) = false := bne_eq_false_iff_eq.mpr c19
          clear c19
          (first | rw [c19b0] | (simp only [i64_w, i32_w]; rw [c19b0]) | skip)
          have H' := Aside0.mk H
          clear H
          obtain ⟨Ao20, co20, eo20⟩ := Kd.R_slice HO184.out
          subst eo20
          obtain ⟨Ao21, co21, eo21⟩ := Kd.R_slice HO176.out
          subst eo21
          go_wp2_with (first | ((with_reducible refine gate_callee (f := 9) rfl ?_); refine goesL_ (some 47) rfl rfl Try.func9 (by kernel_rfl) rfl #[.slice Ao20 t180.length co20, .slice Ao21 t172.length co21] rfl (by (try simp only [List.map_toArray, List.map_cons, List.map_nil]); first | done | rfl | (simp only [List.length_drop, List.length_take]; rfl)) ?_; (with_reducible refine (laws_eqInt64S.calls k _ _ t180 _ _ t172 true _ ?side1 ?side2 ?side3 ?side4 A17.out).mono ?_); (case side1 => repeat (first | exact (Kd.R_reads' HO184.out).2.2 | (with_reducible refine Kd.C_alloc ?_ _) | (with_reducible refine Kd.C_drewN ?_ _) | (with_reducible refine Kd.C_drew ?_))); (case side2 => exact (Kd.R_reads' HO184.out).2.1); (case side3 => repeat (first | exact (Kd.R_reads' HO176.out).2.2 | (with_reducible refine Kd.C_alloc ?_ _) | (with_reducible refine Kd.C_drewN ?_ _) | (with_reducible refine Kd.C_drew ?_))); (case side4 => exact (Kd.R_reads' HO176.out).2.1); rintro e w' ⟨rfl, ⟨nd, rfl⟩⟩; refine ⟨_, rfl, ?_⟩))
          go_meet
          case rel => exact ⟨_, ((t182 != t174)), (by first | rfl | (simp; done) | (simp [*]; done)), H', ⟨by first | omega | exact Nat.le_refl _⟩, ⟨by (with_reducible repeat (first | apply Kd.R_alloc | apply Kd.R_drewN | apply Kd.R_drew)); exact Kd.R_mono HO176.out (fun _ hk => hk.2)⟩, ⟨by (with_reducible repeat (first | apply Kd.R_alloc | apply Kd.R_drewN | apply Kd.R_drew)); exact Kd.R_mono HO179.out (fun _ hk => trivial)⟩, ⟨by (with_reducible repeat (first | apply Kd.R_alloc | apply Kd.R_drewN | apply Kd.R_drew)); exact Kd.R_mono HO184.out (fun _ hk => hk.2)⟩, ⟨by repeat (first | (with_reducible first | exact HB.out | apply below_alloc | apply pw_below_drewN | apply below_drew1) | exact HB.out)⟩⟩
        · rw [if_neg c19] at H
          have c19b0 : (t181 == t173) = false := beq_eq_false_iff_ne.mpr c19
          have c19b1 : (t181 != t173) = true := bne_iff_ne.mpr c19
          (first | rw [c19b0] | (simp only [i64_w, i32_w]; rw [c19b0]) | skip)
          have H' := Aside0.mk H
          clear H
          obtain ⟨Ao22, co22, eo22⟩ := Kd.R_slice HO184.out
          subst eo22
          obtain ⟨Ao23, co23, eo23⟩ := Kd.R_slice HO176.out
          subst eo23
          go_wp2_with (first | ((with_reducible refine gate_callee (f := 9) rfl ?_); refine goesL_ (some 47) rfl rfl Try.func9 (by kernel_rfl) rfl #[.slice Ao22 t180.length co22, .slice Ao23 t172.length co23] rfl (by (try simp only [List.map_toArray, List.map_cons, List.map_nil]); first | done | rfl | (simp only [List.length_drop, List.length_take]; rfl)) ?_; (with_reducible refine (laws_eqInt64S.calls k _ _ t180 _ _ t172 true _ ?side1 ?side2 ?side3 ?side4 A17.out).mono ?_); (case side1 => repeat (first | exact (Kd.R_reads' HO184.out).2.2 | (with_reducible refine Kd.C_alloc ?_ _) | (with_reducible refine Kd.C_drewN ?_ _) | (with_reducible refine Kd.C_drew ?_))); (case side2 => exact (Kd.R_reads' HO184.out).2.1); (case side3 => repeat (first | exact (Kd.R_reads' HO176.out).2.2 | (with_reducible refine Kd.C_alloc ?_ _) | (with_reducible refine Kd.C_drewN ?_ _) | (with_reducible refine Kd.C_drew ?_))); (case side4 => exact (Kd.R_reads' HO176.out).2.1); rintro e w' ⟨rfl, ⟨nd, rfl⟩⟩; refine ⟨_, rfl, ?_⟩))
          go_meet
          case rel => exact ⟨_, (true), (by first | rfl | (simp; done) | (simp [*]; done)), H', ⟨by first | omega | exact Nat.le_refl _⟩, ⟨by (with_reducible repeat (first | apply Kd.R_alloc | apply Kd.R_drewN | apply Kd.R_drew)); exact Kd.R_mono HO176.out (fun _ hk => hk.2)⟩, ⟨by (with_reducible repeat (first | apply Kd.R_alloc | apply Kd.R_drewN | apply Kd.R_drew)); exact Kd.R_mono HO179.out (fun _ hk => trivial)⟩, ⟨by (with_reducible repeat (first | apply Kd.R_alloc | apply Kd.R_drewN | apply Kd.R_drew)); exact Kd.R_mono HO184.out (fun _ hk => hk.2)⟩, ⟨by repeat (first | (with_reducible first | exact HB.out | apply below_alloc | apply pw_below_drewN | apply below_drew1) | exact HB.out)⟩⟩
      · replace c18 := Bool.eq_false_iff.mpr c18
        subst c18
        have H1 : (laws_FnExactCutRow.j0 k l0 a1 a2 t172 t173 t174 t177 t180 t181 t182 true) = some true := by rw [if_neg (show ¬ (false = true) by decide)] at H; exact H
        clear H
        have H := H1
        clear H1
        have H' := Aside0.mk H
        clear H
        obtain ⟨Ao24, co24, eo24⟩ := Kd.R_slice HO184.out
        subst eo24
        obtain ⟨Ao25, co25, eo25⟩ := Kd.R_slice HO176.out
        subst eo25
        go_wp2_with (first | ((with_reducible refine gate_callee (f := 9) rfl ?_); refine goesL_ (some 47) rfl rfl Try.func9 (by kernel_rfl) rfl #[.slice Ao24 t180.length co24, .slice Ao25 t172.length co25] rfl (by (try simp only [List.map_toArray, List.map_cons, List.map_nil]); first | done | rfl | (simp only [List.length_drop, List.length_take]; rfl)) ?_; (with_reducible refine (laws_eqInt64S.calls k _ _ t180 _ _ t172 false _ ?side1 ?side2 ?side3 ?side4 A17.out).mono ?_); (case side1 => repeat (first | exact (Kd.R_reads' HO184.out).2.2 | (with_reducible refine Kd.C_alloc ?_ _) | (with_reducible refine Kd.C_drewN ?_ _) | (with_reducible refine Kd.C_drew ?_))); (case side2 => exact (Kd.R_reads' HO184.out).2.1); (case side3 => repeat (first | exact (Kd.R_reads' HO176.out).2.2 | (with_reducible refine Kd.C_alloc ?_ _) | (with_reducible refine Kd.C_drewN ?_ _) | (with_reducible refine Kd.C_drew ?_))); (case side4 => exact (Kd.R_reads' HO176.out).2.1); rintro e w' ⟨rfl, ⟨nd, rfl⟩⟩; refine ⟨_, rfl, ?_⟩))
        go_meet
        case rel => exact ⟨_, (true), (by first | rfl | (simp; done) | (simp [*]; done)), H', ⟨by first | omega | exact Nat.le_refl _⟩, ⟨by (with_reducible repeat (first | apply Kd.R_alloc | apply Kd.R_drewN | apply Kd.R_drew)); exact Kd.R_mono HO176.out (fun _ hk => hk.2)⟩, ⟨by (with_reducible repeat (first | apply Kd.R_alloc | apply Kd.R_drewN | apply Kd.R_drew)); exact Kd.R_mono HO179.out (fun _ hk => trivial)⟩, ⟨by (with_reducible repeat (first | apply Kd.R_alloc | apply Kd.R_drewN | apply Kd.R_drew)); exact Kd.R_mono HO184.out (fun _ hk => hk.2)⟩, ⟨by repeat (first | (with_reducible first | exact HB.out | apply below_alloc | apply pw_below_drewN | apply below_drew1) | exact HB.out)⟩⟩
    case rest =>
      clear HC10
      try clear c1
      try clear p2
      try clear c3
      try clear c5
      try clear c5b0
      try clear c6
      try clear c7
      try clear c8
      try clear c9
      try clear c18
      try clear c19
      try clear c19b0
      try clear c19b1
      obtain ⟨kq, x58_9, rfl, HA, HJ9, HO_8, HO_11, HO_12, HB⟩ := hcut
      cases kq with
      | zero => exact absurd HA.out (by simp [laws_FnExactCutRow.j0])
      | succ kj9 =>
        have H := HA.out
        clear HA
        simp only [laws_FnExactCutRow.j0] at H
        by_cases c26 : x58_9 = true
        · subst c26
          have H1 : (some false) = some true := by rw [if_pos rfl] at H; exact H
          clear H
          have H := H1
          clear H1
          exact absurd (Option.some.inj H) (by decide)
        · replace c26 := Bool.eq_false_iff.mpr c26
          subst c26
          have H1 : ((laws_toSettS.f kj9 l0).bind fun t186 => ((laws_eqSettS.f kj9 t177 t186).bind fun t189 => (if t189 = true then ((laws_markSettS.f kj9 t177 1).bind fun bt190 => (if bt190.1 < 0 then (laws_FnExactCutRow.j1 kj9 l0 a1 a2 t172 t173 t174 t180 true) else ((laws_eqInt64S.f kj9 t180 t172).bind fun t192 => (if t192 = true then (if t181 = t173 then (laws_FnExactCutRow.j1 kj9 l0 a1 a2 t172 t173 t174 t180 (t182 != t174)) else (laws_FnExactCutRow.j1 kj9 l0 a1 a2 t172 t173 t174 t180 true)) else (laws_FnExactCutRow.j1 kj9 l0 a1 a2 t172 t173 t174 t180 true))))) else (some false)))) = some true := by rw [if_neg (show ¬ (false = true) by decide)] at H; exact H
          clear H
          have H := H1
          clear H1
          replace H := Option.bind_eq_some_iff.mp H
          obtain ⟨t186, A270, H⟩ := H
          replace H : ((laws_eqSettS.f kj9 t177 t186).bind fun t189 => (if t189 = true then ((laws_markSettS.f kj9 t177 1).bind fun bt190 => (if bt190.1 < 0 then (laws_FnExactCutRow.j1 kj9 l0 a1 a2 t172 t173 t174 t180 true) else ((laws_eqInt64S.f kj9 t180 t172).bind fun t192 => (if t192 = true then (if t181 = t173 then (laws_FnExactCutRow.j1 kj9 l0 a1 a2 t172 t173 t174 t180 (t182 != t174)) else (laws_FnExactCutRow.j1 kj9 l0 a1 a2 t172 t173 t174 t180 true)) else (laws_FnExactCutRow.j1 kj9 l0 a1 a2 t172 t173 t174 t180 true))))) else (some false))) = some true := H
          have A27 := Aside0.mk A270
          clear A270
          replace H := Option.bind_eq_some_iff.mp H
          obtain ⟨t189, A280, H⟩ := H
          replace H : (if t189 = true then ((laws_markSettS.f kj9 t177 1).bind fun bt190 => (if bt190.1 < 0 then (laws_FnExactCutRow.j1 kj9 l0 a1 a2 t172 t173 t174 t180 true) else ((laws_eqInt64S.f kj9 t180 t172).bind fun t192 => (if t192 = true then (if t181 = t173 then (laws_FnExactCutRow.j1 kj9 l0 a1 a2 t172 t173 t174 t180 (t182 != t174)) else (laws_FnExactCutRow.j1 kj9 l0 a1 a2 t172 t173 t174 t180 true)) else (laws_FnExactCutRow.j1 kj9 l0 a1 a2 t172 t173 t174 t180 true))))) else (some false)) = some true := H
          have A28 := Aside0.mk A280
          clear A280
          by_cases c29 : t189 = true
          · subst c29
            have H1 : ((laws_markSettS.f kj9 t177 1).bind fun bt190 => (if bt190.1 < 0 then (laws_FnExactCutRow.j1 kj9 l0 a1 a2 t172 t173 t174 t180 true) else ((laws_eqInt64S.f kj9 t180 t172).bind fun t192 => (if t192 = true then (if t181 = t173 then (laws_FnExactCutRow.j1 kj9 l0 a1 a2 t172 t173 t174 t180 (t182 != t174)) else (laws_FnExactCutRow.j1 kj9 l0 a1 a2 t172 t173 t174 t180 true)) else (laws_FnExactCutRow.j1 kj9 l0 a1 a2 t172 t173 t174 t180 true))))) = some true := by rw [if_pos rfl] at H; exact H
            clear H
            have H := H1
            clear H1
            replace H := Option.bind_eq_some_iff.mp H
            obtain ⟨⟨t190, t191⟩, A300, H⟩ := H
            replace H : (if t190 < 0 then (laws_FnExactCutRow.j1 kj9 l0 a1 a2 t172 t173 t174 t180 true) else ((laws_eqInt64S.f kj9 t180 t172).bind fun t192 => (if t192 = true then (if t181 = t173 then (laws_FnExactCutRow.j1 kj9 l0 a1 a2 t172 t173 t174 t180 (t182 != t174)) else (laws_FnExactCutRow.j1 kj9 l0 a1 a2 t172 t173 t174 t180 true)) else (laws_FnExactCutRow.j1 kj9 l0 a1 a2 t172 t173 t174 t180 true)))) = some true := H
            have A30 := Aside0.mk A300
            clear A300
            have HC31 := Aside0.mk H
            clear H
            go_upto_region 14 with (first | ((with_reducible refine gate_callee (f := 7) rfl ?_); refine goesL_ (some 61) rfl rfl Try.func7 (by kernel_rfl) rfl #[.slice A0 l0.length c0] rfl (by (try simp only [List.map_toArray, List.map_cons, List.map_nil]); first | done | rfl | (simp only [List.length_drop, List.length_take]; rfl)) ?_; (with_reducible refine (laws_toSettS.calls kj9 _ _ l0 t186 _ ?side1 ?side2 A27.out).mono ?_); (case side1 => repeat (first | exact (Kd.C_below HR0.out HB.out) | (with_reducible refine Kd.C_alloc ?_ _) | (with_reducible refine Kd.C_drewN ?_ _) | (with_reducible refine Kd.C_drew ?_))); (case side2 => exact HC0.out); rintro e w32 ⟨v187, rfl, ho0, hb⟩; refine ⟨_, rfl, ?_⟩; have n0_ := Aside0.mk (Kd.R_below (by (with_reducible repeat (first | apply Kd.R_alloc | apply Kd.R_drewN | apply Kd.R_drew)); exact HO_8.out) hb); have n1_ := Aside0.mk (Kd.R_elder' (by (with_reducible repeat (first | apply Kd.R_alloc | apply Kd.R_drewN | apply Kd.R_drew)); exact HO_11.out) (Kd.R_base ho0) hb); have n2_ := Aside0.mk (Kd.R_below (by (with_reducible repeat (first | apply Kd.R_alloc | apply Kd.R_drewN | apply Kd.R_drew)); exact HO_12.out) hb); have n3_ := Aside0.mk (Kd.R_lower (Kd.R_new' ho0 (Kd.R_lt (by (with_reducible repeat (first | apply Kd.R_alloc | apply Kd.R_drewN | apply Kd.R_drew)); exact HO_11.out))) (below_size (by repeat (first | (with_reducible first | exact HB.out | apply below_alloc | apply pw_below_drewN | apply below_drew1) | exact HB.out)))); have n4_ := Aside0.mk (below_step (by repeat (first | (with_reducible first | exact HB.out | apply below_alloc | apply pw_below_drewN | apply below_drew1) | exact HB.out)) hb); clear HO_8; clear HO_11; clear HO_12; clear HB; have HO_8 := n0_; have HO_11 := n1_; have HO_12 := n2_; have HO188 := n3_; have HB := n4_; clear n0_ n1_ n2_ n3_ n4_; (try clear hb); (try clear hb2); (try clear hk); (try clear hi); (try clear ho0); obtain ⟨Ao33, co33, eo33⟩ := Kd.R_slice HO188.out; subst eo33) | ((with_reducible refine gate_callee (f := 10) rfl ?_); refine goesL_ (some 62) rfl rfl Try.func10 (by kernel_rfl) rfl #[.slice Ao15 t177.length co15, .slice Ao33 t186.length co33] rfl (by (try simp only [List.map_toArray, List.map_cons, List.map_nil]); first | done | rfl | (simp only [List.length_drop, List.length_take]; rfl)) ?_; (with_reducible refine (laws_eqSettS.calls kj9 _ _ t177 _ _ t186 true _ ?side1 ?side2 ?side3 ?side4 A28.out).mono ?_); (case side1 => repeat (first | exact (Kd.R_reads' HO_11.out).2.2 | (with_reducible refine Kd.C_alloc ?_ _) | (with_reducible refine Kd.C_drewN ?_ _) | (with_reducible refine Kd.C_drew ?_))); (case side2 => exact (Kd.R_reads' HO_11.out).2.1); (case side3 => repeat (first | exact (Kd.R_reads' HO188.out).2.2 | (with_reducible refine Kd.C_alloc ?_ _) | (with_reducible refine Kd.C_drewN ?_ _) | (with_reducible refine Kd.C_drew ?_))); (case side4 => exact (Kd.R_reads' HO188.out).2.1); rintro e w34 ⟨rfl, hb⟩; refine ⟨_, rfl, ?_⟩; have n0_ := Aside0.mk (Kd.R_below (by (with_reducible repeat (first | apply Kd.R_alloc | apply Kd.R_drewN | apply Kd.R_drew)); exact HO_8.out) hb); have n1_ := Aside0.mk (Kd.R_below (by (with_reducible repeat (first | apply Kd.R_alloc | apply Kd.R_drewN | apply Kd.R_drew)); exact HO_11.out) hb); have n2_ := Aside0.mk (Kd.R_below (by (with_reducible repeat (first | apply Kd.R_alloc | apply Kd.R_drewN | apply Kd.R_drew)); exact HO_12.out) hb); have n3_ := Aside0.mk (Kd.R_below (by (with_reducible repeat (first | apply Kd.R_alloc | apply Kd.R_drewN | apply Kd.R_drew)); exact HO188.out) hb); have n4_ := Aside0.mk (below_step (by repeat (first | (with_reducible first | exact HB.out | apply below_alloc | apply pw_below_drewN | apply below_drew1) | exact HB.out)) hb); clear HO_8; clear HO_11; clear HO_12; clear HO188; clear HB; have HO_8 := n0_; have HO_11 := n1_; have HO_12 := n2_; have HO188 := n3_; have HB := n4_; clear n0_ n1_ n2_ n3_ n4_; (try clear hb); (try clear hb2); (try clear hk); (try clear hi)) | ((with_reducible refine gate_callee (f := 11) rfl ?_); refine goesL_ (some 66) rfl rfl Try.func11 (by kernel_rfl) rfl #[.slice Ao15 t177.length co15, .int .i64 1] rfl (by (try simp only [List.map_toArray, List.map_cons, List.map_nil]); first | done | rfl | (simp only [List.length_drop, List.length_take]; rfl)) ?_; (with_reducible refine (laws_markSettS.calls kj9 (fun k_ => some k_ = (.slice Ao15 t177.length co15 : Value).ownBlock) (.slice Ao15 t177.length co15) t177 1 t190 t191 w _ ?side1 ?side2 A30.out).mono ?_); (case side1 => repeat (first | (with_reducible first | exact HB.out | apply below_alloc | apply pw_below_drewN | apply below_drew1) | exact HB.out)); (case side2 => exact Kd.R_tight rfl HO_11.out); rintro e w35 ⟨rfl, hy0, hb, hkp⟩; refine ⟨_, rfl, ?_⟩; have n0_ := Aside0.mk (Kd.R_mono (ok' := fun k_ => some k_ ≠ (v183 : Value).ownBlock) (Kd.R_keptB ((Kd.R_apart' HO_8.out (Kd.R_typed HO_11.out) (by decide))) hkp (fun k_ hk_ hs_ => (hk_.2) hs_)) (fun k_ hk_ => hk_.1.1)); have n1_ := Aside0.mk (Kd.R_reok rfl hy0 (fun k_ e_ => HO_11.out.1 k_ e_)); have n2_ := Aside0.mk (Kd.R_mono (ok' := fun k_ => some k_ ≠ (v175 : Value).ownBlock) (Kd.R_keptB ((Kd.R_apart' HO_12.out (Kd.R_typed HO_11.out) (by decide))) hkp (fun k_ hk_ hs_ => (hk_.2) hs_)) (fun k_ hk_ => hk_.1.1)); have n3_ := Aside0.mk (Kd.R_mono (ok' := fun k_ => some k_ ≠ (.slice Ao15 t177.length co15 : Value).ownBlock) (Kd.R_keptB (HO188.out) hkp (fun k_ hk_ hs_ => (hk_.2) hs_)) (fun k_ hk_ => hk_.1.2)); have n4_ := Aside0.mk (hb); clear HO_8; clear HO_11; clear HO_12; clear HO188; clear HB; have HO_8 := n0_; have HO_11 := n1_; have HO_12 := n2_; have HO188 := n3_; have HB := n4_; clear n0_ n1_ n2_ n3_ n4_; (try clear hb); (try clear hkp); (try clear hy0)))
            (try simp only [Act.put, List.setIfInBounds_toArray, List.set_cons_zero, List.set_cons_succ])
            go_cut [84] (fun v84 wc => ∃ (kq : Nat) (x84_30 : Bool), v84 = .bool x84_30 ∧ Aside0 (laws_FnExactCutRow.j1 kq l0 a1 a2 t172 t173 t174 t180 x84_30 = some true) ∧ Aside0 (kq ≤ kj9) ∧ Aside0 (Kd.R (Kd.int .i64) 2 wc w.heap.size (fun k_ => some k_ ≠ (v183 : Value).ownBlock) v175 t172) ∧ Aside0 (Kd.R (Kd.int .i64) 2 wc w.heap.size (fun k_ => some k_ ≠ (v175 : Value).ownBlock) v183 t180) ∧ Aside0 (Below w.heap.size w wc))
            case first =>
              have H := HC31.out
              clear HC31
              by_cases c36 : t190 < 0
              · rw [if_pos c36] at H
                have c36b0 : decide (t190 < 0) = true := decide_eq_true c36
                clear c36
                (first | rw [c36b0] | (simp only [i64_w, i32_w]; rw [c36b0]) | skip)
                have H' := Aside0.mk H
                clear H
                go_wp2
                go_meet
                case rel => exact ⟨_, (true), (by first | rfl | (simp; done) | (simp [*]; done)), H', ⟨by have := HJ9.out; first | omega | exact Nat.le_refl _⟩, ⟨by (with_reducible repeat (first | apply Kd.R_alloc | apply Kd.R_drewN | apply Kd.R_drew)); exact HO_8.out⟩, ⟨by (with_reducible repeat (first | apply Kd.R_alloc | apply Kd.R_drewN | apply Kd.R_drew)); exact HO_12.out⟩, ⟨by repeat (first | (with_reducible first | exact HB.out | apply below_alloc | apply pw_below_drewN | apply below_drew1) | exact HB.out)⟩⟩
              · rw [if_neg c36] at H
                have c36b0 : decide (t190 < 0) = false := decide_eq_false c36
                clear c36
                (first | rw [c36b0] | (simp only [i64_w, i32_w]; rw [c36b0]) | skip)
                replace H := Option.bind_eq_some_iff.mp H
                obtain ⟨t192, A370, H⟩ := H
                replace H : (if t192 = true then (if t181 = t173 then (laws_FnExactCutRow.j1 kj9 l0 a1 a2 t172 t173 t174 t180 (t182 != t174)) else (laws_FnExactCutRow.j1 kj9 l0 a1 a2 t172 t173 t174 t180 true)) else (laws_FnExactCutRow.j1 kj9 l0 a1 a2 t172 t173 t174 t180 true)) = some true := H
                have A37 := Aside0.mk A370
                clear A370
                by_cases c38 : t192 = true
                · subst c38
                  have H1 : (if t181 = t173 then (laws_FnExactCutRow.j1 kj9 l0 a1 a2 t172 t173 t174 t180 (t182 != t174)) else (laws_FnExactCutRow.j1 kj9 l0 a1 a2 t172 t173 t174 t180 true)) = some true := by rw [if_pos rfl] at H; exact H
                  clear H
                  have H := H1
                  clear H1
                  by_cases c39 : t181 = t173
                  · rw [if_pos c39] at H
                    have c39b0 : (t181 == t173) = true := beq_iff_eq.mpr c39
                    have c39b1 : (t181 != t173) = false := bne_eq_false_iff_eq.mpr c39
                    clear c39
                    have H' := Aside0.mk H
                    clear H
                    obtain ⟨Ao40, co40, eo40⟩ := Kd.R_slice HO_12.out
                    subst eo40
                    obtain ⟨Ao41, co41, eo41⟩ := Kd.R_slice HO_8.out
                    subst eo41
                    go_wp2_with (first | (go_at_call 9; (with_reducible refine (laws_eqInt64S.calls kj9 _ _ t180 _ _ t172 true _ ?side1 ?side2 ?side3 ?side4 A37.out).mono ?_); (case side1 => repeat (first | exact (Kd.R_reads' HO_12.out).2.2 | (with_reducible refine Kd.C_alloc ?_ _) | (with_reducible refine Kd.C_drewN ?_ _) | (with_reducible refine Kd.C_drew ?_))); (case side2 => exact (Kd.R_reads' HO_12.out).2.1); (case side3 => repeat (first | exact (Kd.R_reads' HO_8.out).2.2 | (with_reducible refine Kd.C_alloc ?_ _) | (with_reducible refine Kd.C_drewN ?_ _) | (with_reducible refine Kd.C_drew ?_))); (case side4 => exact (Kd.R_reads' HO_8.out).2.1); rintro e w' ⟨rfl, ⟨nd, rfl⟩⟩))
                    go_meet
                    case rel => exact ⟨_, ((t182 != t174)), (by first | rfl | (simp; done) | (simp [*]; done)), H', ⟨by have := HJ9.out; first | omega | exact Nat.le_refl _⟩, ⟨by (with_reducible repeat (first | apply Kd.R_alloc | apply Kd.R_drewN | apply Kd.R_drew)); exact HO_8.out⟩, ⟨by (with_reducible repeat (first | apply Kd.R_alloc | apply Kd.R_drewN | apply Kd.R_drew)); exact HO_12.out⟩, ⟨by repeat (first | (with_reducible first | exact HB.out | apply below_alloc | apply pw_below_drewN | apply below_drew1) | exact HB.out)⟩⟩
                  · rw [if_neg c39] at H
                    have c39b0 : (t181 == t173) = false := beq_eq_false_iff_ne.mpr c39
                    have c39b1 : (t181 != t173) = true := bne_iff_ne.mpr c39
                    have H' := Aside0.mk H
                    clear H
                    obtain ⟨Ao42, co42, eo42⟩ := Kd.R_slice HO_12.out
                    subst eo42
                    obtain ⟨Ao43, co43, eo43⟩ := Kd.R_slice HO_8.out
                    subst eo43
                    go_wp2_with (first | (go_at_call 9; (with_reducible refine (laws_eqInt64S.calls kj9 _ _ t180 _ _ t172 true _ ?side1 ?side2 ?side3 ?side4 A37.out).mono ?_); (case side1 => repeat (first | exact (Kd.R_reads' HO_12.out).2.2 | (with_reducible refine Kd.C_alloc ?_ _) | (with_reducible refine Kd.C_drewN ?_ _) | (with_reducible refine Kd.C_drew ?_))); (case side2 => exact (Kd.R_reads' HO_12.out).2.1); (case side3 => repeat (first | exact (Kd.R_reads' HO_8.out).2.2 | (with_reducible refine Kd.C_alloc ?_ _) | (with_reducible refine Kd.C_drewN ?_ _) | (with_reducible refine Kd.C_drew ?_))); (case side4 => exact (Kd.R_reads' HO_8.out).2.1); rintro e w' ⟨rfl, ⟨nd, rfl⟩⟩))
                    go_meet
                    case rel => exact ⟨_, (true), (by first | rfl | (simp; done) | (simp [*]; done)), H', ⟨by have := HJ9.out; first | omega | exact Nat.le_refl _⟩, ⟨by (with_reducible repeat (first | apply Kd.R_alloc | apply Kd.R_drewN | apply Kd.R_drew)); exact HO_8.out⟩, ⟨by (with_reducible repeat (first | apply Kd.R_alloc | apply Kd.R_drewN | apply Kd.R_drew)); exact HO_12.out⟩, ⟨by repeat (first | (with_reducible first | exact HB.out | apply below_alloc | apply pw_below_drewN | apply below_drew1) | exact HB.out)⟩⟩
                · replace c38 := Bool.eq_false_iff.mpr c38
                  subst c38
                  have H1 : (laws_FnExactCutRow.j1 kj9 l0 a1 a2 t172 t173 t174 t180 true) = some true := by rw [if_neg (show ¬ (false = true) by decide)] at H; exact H
                  clear H
                  have H := H1
                  clear H1
                  have H' := Aside0.mk H
                  clear H
                  obtain ⟨Ao44, co44, eo44⟩ := Kd.R_slice HO_12.out
                  subst eo44
                  obtain ⟨Ao45, co45, eo45⟩ := Kd.R_slice HO_8.out
                  subst eo45
                  go_wp2_with (first | (go_at_call 9; (with_reducible refine (laws_eqInt64S.calls kj9 _ _ t180 _ _ t172 false _ ?side1 ?side2 ?side3 ?side4 A37.out).mono ?_); (case side1 => repeat (first | exact (Kd.R_reads' HO_12.out).2.2 | (with_reducible refine Kd.C_alloc ?_ _) | (with_reducible refine Kd.C_drewN ?_ _) | (with_reducible refine Kd.C_drew ?_))); (case side2 => exact (Kd.R_reads' HO_12.out).2.1); (case side3 => repeat (first | exact (Kd.R_reads' HO_8.out).2.2 | (with_reducible refine Kd.C_alloc ?_ _) | (with_reducible refine Kd.C_drewN ?_ _) | (with_reducible refine Kd.C_drew ?_))); (case side4 => exact (Kd.R_reads' HO_8.out).2.1); rintro e w' ⟨rfl, ⟨nd, rfl⟩⟩))
                  go_meet
                  case rel => exact ⟨_, (true), (by first | rfl | (simp; done) | (simp [*]; done)), H', ⟨by have := HJ9.out; first | omega | exact Nat.le_refl _⟩, ⟨by (with_reducible repeat (first | apply Kd.R_alloc | apply Kd.R_drewN | apply Kd.R_drew)); exact HO_8.out⟩, ⟨by (with_reducible repeat (first | apply Kd.R_alloc | apply Kd.R_drewN | apply Kd.R_drew)); exact HO_12.out⟩, ⟨by repeat (first | (with_reducible first | exact HB.out | apply below_alloc | apply pw_below_drewN | apply below_drew1) | exact HB.out)⟩⟩
            case rest =>
              clear HC31
              try clear c1
              try clear c2
              try clear p2
              try clear c3
              try clear c5
              try clear c5b0
              try clear c6
              try clear c7
              try clear c8
              try clear c9
              try clear c10
              try clear c11
              try clear c18
              try clear c19
              try clear c19b0
              try clear c19b1
              try clear c26
              try clear c29
              try clear c36
              try clear c36b0
              try clear c38
              try clear c39
              try clear c39b0
              try clear c39b1
              try clear p2
              obtain ⟨kq, x84_30, rfl, HA, HJ30, HO_8, HO_12, HB⟩ := hcut
              cases kq with
              | zero => exact absurd HA.out (by simp [laws_FnExactCutRow.j1])
              | succ kj30 =>
                have H := HA.out
                clear HA
                simp only [laws_FnExactCutRow.j1] at H
                by_cases c46 : x84_30 = true
                · subst c46
                  have H1 : (some false) = some true := by rw [if_pos rfl] at H; exact H
                  clear H
                  have H := H1
                  clear H1
                  exact absurd (Option.some.inj H) (by decide)
                · replace c46 := Bool.eq_false_iff.mpr c46
                  subst c46
                  have H1 : ((laws_markInt64S.f kj30 t180 1).bind fun bt193 => ((laws_heldInt64S.f kj30 bt193.2 1).bind fun t195 => (if t195 < 0 then (some false) else (if t195 = bt193.1 then ((laws_toSettS.f kj30 l0).bind fun t196 => ((impl_CutRow.f kj30 t196 a1 a2).bind fun bt199 => ((laws_eqInt64S.f kj30 bt199.1 t172).bind fun t204 => (if t204 = true then (if bt199.2.1 = t173 then (laws_FnExactCutRow.j2 kj30 bt193.2 bt193.1 (bt199.2.2 != t174)) else (laws_FnExactCutRow.j2 kj30 bt193.2 bt193.1 true)) else (laws_FnExactCutRow.j2 kj30 bt193.2 bt193.1 true))))) else (some false))))) = some true := by rw [if_neg (show ¬ (false = true) by decide)] at H; exact H
                  clear H
                  have H := H1
                  clear H1
                  replace H := Option.bind_eq_some_iff.mp H
                  obtain ⟨⟨t193, t194⟩, A470, H⟩ := H
                  replace H : ((laws_heldInt64S.f kj30 t194 1).bind fun t195 => (if t195 < 0 then (some false) else (if t195 = t193 then ((laws_toSettS.f kj30 l0).bind fun t196 => ((impl_CutRow.f kj30 t196 a1 a2).bind fun bt199 => ((laws_eqInt64S.f kj30 bt199.1 t172).bind fun t204 => (if t204 = true then (if bt199.2.1 = t173 then (laws_FnExactCutRow.j2 kj30 t194 t193 (bt199.2.2 != t174)) else (laws_FnExactCutRow.j2 kj30 t194 t193 true)) else (laws_FnExactCutRow.j2 kj30 t194 t193 true))))) else (some false)))) = some true := H
                  have A47 := Aside0.mk A470
                  clear A470
                  replace H := Option.bind_eq_some_iff.mp H
                  obtain ⟨t195, A480, H⟩ := H
                  replace H : (if t195 < 0 then (some false) else (if t195 = t193 then ((laws_toSettS.f kj30 l0).bind fun t196 => ((impl_CutRow.f kj30 t196 a1 a2).bind fun bt199 => ((laws_eqInt64S.f kj30 bt199.1 t172).bind fun t204 => (if t204 = true then (if bt199.2.1 = t173 then (laws_FnExactCutRow.j2 kj30 t194 t193 (bt199.2.2 != t174)) else (laws_FnExactCutRow.j2 kj30 t194 t193 true)) else (laws_FnExactCutRow.j2 kj30 t194 t193 true))))) else (some false))) = some true := H
                  have A48 := Aside0.mk A480
                  clear A480
                  by_cases c49 : t195 < 0
                  · rw [if_pos c49] at H
                    have c49b0 : decide (t195 < 0) = true := decide_eq_true c49
                    clear c49
                    exact absurd (Option.some.inj H) (by decide)
                  · rw [if_neg c49] at H
                    have c49b0 : decide (t195 < 0) = false := decide_eq_false c49
                    clear c49
                    by_cases c50 : t195 = t193
                    · rw [if_pos c50] at H
                      have c50b0 : (t195 == t193) = true := beq_iff_eq.mpr c50
                      have c50b1 : (t195 != t193) = false := bne_eq_false_iff_eq.mpr c50
                      clear c50
                      replace H := Option.bind_eq_some_iff.mp H
                      obtain ⟨t196, A510, H⟩ := H
                      replace H : ((impl_CutRow.f kj30 t196 a1 a2).bind fun bt199 => ((laws_eqInt64S.f kj30 bt199.1 t172).bind fun t204 => (if t204 = true then (if bt199.2.1 = t173 then (laws_FnExactCutRow.j2 kj30 t194 t193 (bt199.2.2 != t174)) else (laws_FnExactCutRow.j2 kj30 t194 t193 true)) else (laws_FnExactCutRow.j2 kj30 t194 t193 true)))) = some true := H
                      have A51 := Aside0.mk A510
                      clear A510
                      replace H := Option.bind_eq_some_iff.mp H
                      obtain ⟨⟨t199, t200, t201⟩, A520, H⟩ := H
                      replace H : ((laws_eqInt64S.f kj30 t199 t172).bind fun t204 => (if t204 = true then (if t200 = t173 then (laws_FnExactCutRow.j2 kj30 t194 t193 (t201 != t174)) else (laws_FnExactCutRow.j2 kj30 t194 t193 true)) else (laws_FnExactCutRow.j2 kj30 t194 t193 true))) = some true := H
                      have A52 := Aside0.mk A520
                      clear A520
                      have HC53 := Aside0.mk H
                      clear H
                      obtain ⟨Ao54, co54, eo54⟩ := Kd.R_slice HO_12.out
                      subst eo54
                      go_upto_region 25 with (first | ((with_reducible refine gate_callee (f := 12) rfl ?_); refine goesL_ (some 87) rfl rfl Try.func12 (by kernel_rfl) rfl #[.slice Ao54 t180.length co54, .int .i64 1] rfl (by (try simp only [List.map_toArray, List.map_cons, List.map_nil]); first | done | rfl | (simp only [List.length_drop, List.length_take]; rfl)) ?_; (with_reducible refine (laws_markInt64S.calls kj30 (fun k_ => some k_ = (.slice Ao54 t180.length co54 : Value).ownBlock) (.slice Ao54 t180.length co54) t180 1 t193 t194 w _ ?side1 ?side2 A47.out).mono ?_); (case side1 => repeat (first | (with_reducible first | exact HB.out | apply below_alloc | apply pw_below_drewN | apply below_drew1) | exact HB.out)); (case side2 => exact Kd.R_tight rfl HO_12.out); rintro e w55 ⟨rfl, hy0, hb, hkp⟩; refine ⟨_, rfl, ?_⟩; have n0_ := Aside0.mk (Kd.R_mono (ok' := fun k_ => some k_ ≠ (.slice Ao54 t180.length co54 : Value).ownBlock) (Kd.R_keptB (HO_8.out) hkp (fun k_ hk_ hs_ => (hk_) hs_)) (fun k_ hk_ => hk_.1)); have n1_ := Aside0.mk (Kd.R_reok rfl hy0 (fun k_ e_ => HO_12.out.1 k_ e_)); have n2_ := Aside0.mk (hb); clear HO_8; clear HO_12; clear HB; have HO_8 := n0_; have HO_12 := n1_; have HB := n2_; clear n0_ n1_ n2_; (try clear hb); (try clear hkp); (try clear hy0)) | ((with_reducible refine gate_callee (f := 13) rfl ?_); refine goesL_ (some 90) rfl rfl Try.func13 (by kernel_rfl) rfl #[.slice Ao54 t194.length co54, .int .i64 1] rfl (by (try simp only [List.map_toArray, List.map_cons, List.map_nil]); first | done | (rw [show t194.length = t180.length from (Kd.R_reads' HO_12.out).1.symm] <;> rfl) | rfl | (simp only [List.length_drop, List.length_take]; rfl)) ?_; (with_reducible refine (laws_heldInt64S.calls kj30 _ _ t194 1 t195 _ ?side1 ?side2 A48.out).mono ?_); (case side1 => repeat (first | exact (Kd.R_reads' HO_12.out).2.2 | (with_reducible refine Kd.C_alloc ?_ _) | (with_reducible refine Kd.C_drewN ?_ _) | (with_reducible refine Kd.C_drew ?_))); (case side2 => rw [show t194.length = t180.length from (Kd.R_reads' HO_12.out).1.symm]; exact (Kd.R_reads' HO_12.out).2.1); rintro e w' ⟨rfl, ⟨nd, rfl⟩⟩; refine ⟨_, rfl, ?_⟩) | ((with_reducible refine gate_callee (f := 7) rfl ?_); refine goesL_ (some 98) rfl rfl Try.func7 (by kernel_rfl) rfl #[.slice A0 l0.length c0] rfl (by (try simp only [List.map_toArray, List.map_cons, List.map_nil]); first | done | rfl | (simp only [List.length_drop, List.length_take]; rfl)) ?_; (with_reducible refine (laws_toSettS.calls kj30 _ _ l0 t196 _ ?side1 ?side2 A51.out).mono ?_); (case side1 => repeat (first | exact (Kd.C_below HR0.out (by repeat (first | (with_reducible first | exact HB.out | apply below_alloc | apply pw_below_drewN | apply below_drew1) | exact HB.out))) | (with_reducible refine Kd.C_alloc ?_ _) | (with_reducible refine Kd.C_drewN ?_ _) | (with_reducible refine Kd.C_drew ?_))); (case side2 => exact HC0.out); rintro e w56 ⟨v197, rfl, ho0, hb⟩; refine ⟨_, rfl, ?_⟩; have n0_ := Aside0.mk (Kd.R_below (by (with_reducible repeat (first | apply Kd.R_alloc | apply Kd.R_drewN | apply Kd.R_drew)); exact HO_8.out) hb); have n1_ := Aside0.mk (Kd.R_below (by (with_reducible repeat (first | apply Kd.R_alloc | apply Kd.R_drewN | apply Kd.R_drew)); exact HO_12.out) hb); have n2_ := Aside0.mk (Kd.R_lower ho0 (below_size (by repeat (first | (with_reducible first | exact HB.out | apply below_alloc | apply pw_below_drewN | apply below_drew1) | exact HB.out)))); have n3_ := Aside0.mk (below_step (by repeat (first | (with_reducible first | exact HB.out | apply below_alloc | apply pw_below_drewN | apply below_drew1) | exact HB.out)) hb); clear HO_8; clear HO_12; clear HB; have HO_8 := n0_; have HO_12 := n1_; have HO198 := n2_; have HB := n3_; clear n0_ n1_ n2_ n3_; (try clear hb); (try clear hb2); (try clear hk); (try clear hi); (try clear ho0); obtain ⟨Ao57, co57, eo57⟩ := Kd.R_slice HO198.out; subst eo57) | ((with_reducible refine gate_callee (f := 8) rfl ?_); refine goesL_ (some 101) rfl rfl Try.func8 (by kernel_rfl) rfl #[.slice Ao57 t196.length co57, .int .i64 a1, .int .i64 a2] rfl (by (try simp only [List.map_toArray, List.map_cons, List.map_nil]); first | done | rfl | (simp only [List.length_drop, List.length_take]; rfl)) ?_; (with_reducible refine (impl_CutRow.calls kj30 _ _ t196 a1 a2 t199 t200 t201 _ ?side1 ?side2 A52.out).mono ?_); (case side1 => repeat (first | exact (Kd.R_reads' HO198.out).2.2 | (with_reducible refine Kd.C_alloc ?_ _) | (with_reducible refine Kd.C_drewN ?_ _) | (with_reducible refine Kd.C_drew ?_))); (case side2 => exact (Kd.R_reads' HO198.out).2.1); rintro e w58 ⟨v202, rfl, ho0, hb⟩; refine ⟨_, rfl, ?_⟩; have n0_ := Aside0.mk (Kd.R_elder' (by (with_reducible repeat (first | apply Kd.R_alloc | apply Kd.R_drewN | apply Kd.R_drew)); exact HO_8.out) (Kd.R_base ho0) hb); have n1_ := Aside0.mk (Kd.R_elder' (by (with_reducible repeat (first | apply Kd.R_alloc | apply Kd.R_drewN | apply Kd.R_drew)); exact HO_12.out) (Kd.R_base ho0) hb); have n2_ := Aside0.mk (Kd.R_below (by (with_reducible repeat (first | apply Kd.R_alloc | apply Kd.R_drewN | apply Kd.R_drew)); exact HO198.out) hb); have n3_ := Aside0.mk (Kd.R_lower (Kd.R_new' (Kd.R_new' ho0 (Kd.R_lt (by (with_reducible repeat (first | apply Kd.R_alloc | apply Kd.R_drewN | apply Kd.R_drew)); exact HO_8.out))) (Kd.R_lt (by (with_reducible repeat (first | apply Kd.R_alloc | apply Kd.R_drewN | apply Kd.R_drew)); exact HO_12.out))) (below_size (by repeat (first | (with_reducible first | exact HB.out | apply below_alloc | apply pw_below_drewN | apply below_drew1) | exact HB.out)))); have n4_ := Aside0.mk (below_step (by repeat (first | (with_reducible first | exact HB.out | apply below_alloc | apply pw_below_drewN | apply below_drew1) | exact HB.out)) hb); clear HO_8; clear HO_12; clear HO198; clear HB; have HO_8 := n0_; have HO_12 := n1_; have HO198 := n2_; have HO203 := n3_; have HB := n4_; clear n0_ n1_ n2_ n3_ n4_; (try clear hb); (try clear hb2); (try clear hk); (try clear hi); (try clear ho0)))
                      (try simp only [Act.put, List.setIfInBounds_toArray, List.set_cons_zero, List.set_cons_succ])
                      go_cut [118] (fun v118 wc => ∃ (kq : Nat) (x118_52 : Bool), v118 = .bool x118_52 ∧ Aside0 (laws_FnExactCutRow.j2 kq t194 t193 x118_52 = some true) ∧ Aside0 (kq ≤ kj30) ∧ Aside0 (Kd.R (Kd.int .i64) 2 wc w.heap.size (fun _ => True) (.slice Ao54 t180.length co54) t194) ∧ Aside0 (Below w.heap.size w wc))
                      case first =>
                        have H := HC53.out
                        clear HC53
                        replace H := Option.bind_eq_some_iff.mp H
                        obtain ⟨t204, A590, H⟩ := H
                        replace H : (if t204 = true then (if t200 = t173 then (laws_FnExactCutRow.j2 kj30 t194 t193 (t201 != t174)) else (laws_FnExactCutRow.j2 kj30 t194 t193 true)) else (laws_FnExactCutRow.j2 kj30 t194 t193 true)) = some true := H
                        have A59 := Aside0.mk A590
                        clear A590
                        by_cases c60 : t204 = true
                        · subst c60
                          have H1 : (if t200 = t173 then (laws_FnExactCutRow.j2 kj30 t194 t193 (t201 != t174)) else (laws_FnExactCutRow.j2 kj30 t194 t193 true)) = some true := by rw [if_pos rfl] at H; exact H
                          clear H
                          have H := H1
                          clear H1
                          by_cases c61 : t200 = t173
                          · rw [if_pos c61] at H
                            have c61b0 : (t200 == t173) = true := beq_iff_eq.mpr c61
                            have c61b1 : (t200 != t173) = false := bne_eq_false_iff_eq.mpr c61
                            clear c61
                            (first | rw [c61b0] | (simp only [i64_w, i32_w]; rw [c61b0]) | skip)
                            have H' := Aside0.mk H
                            clear H
                            obtain ⟨Ao62, co62, eo62⟩ := Kd.R_slice HO203.out
                            subst eo62
                            obtain ⟨Ao63, co63, eo63⟩ := Kd.R_slice HO_8.out
                            subst eo63
                            go_wp2_with (first | ((with_reducible refine gate_callee (f := 9) rfl ?_); refine goesL_ (some 107) rfl rfl Try.func9 (by kernel_rfl) rfl #[.slice Ao62 t199.length co62, .slice Ao63 t172.length co63] rfl (by (try simp only [List.map_toArray, List.map_cons, List.map_nil]); first | done | rfl | (simp only [List.length_drop, List.length_take]; rfl)) ?_; (with_reducible refine (laws_eqInt64S.calls kj30 _ _ t199 _ _ t172 true _ ?side1 ?side2 ?side3 ?side4 A59.out).mono ?_); (case side1 => repeat (first | exact (Kd.R_reads' HO203.out).2.2 | (with_reducible refine Kd.C_alloc ?_ _) | (with_reducible refine Kd.C_drewN ?_ _) | (with_reducible refine Kd.C_drew ?_))); (case side2 => exact (Kd.R_reads' HO203.out).2.1); (case side3 => repeat (first | exact (Kd.R_reads' HO_8.out).2.2 | (with_reducible refine Kd.C_alloc ?_ _) | (with_reducible refine Kd.C_drewN ?_ _) | (with_reducible refine Kd.C_drew ?_))); (case side4 => exact (Kd.R_reads' HO_8.out).2.1); rintro e w' ⟨rfl, ⟨nd, rfl⟩⟩; refine ⟨_, rfl, ?_⟩))
                            go_meet
                            case rel => exact ⟨_, ((t201 != t174)), (by first | rfl | (simp; done) | (simp [*]; done)), H', ⟨by have := HJ9.out; have := HJ30.out; first | omega | exact Nat.le_refl _⟩, ⟨by (with_reducible repeat (first | apply Kd.R_alloc | apply Kd.R_drewN | apply Kd.R_drew)); exact Kd.R_mono HO_12.out (fun _ hk => trivial)⟩, ⟨by repeat (first | (with_reducible first | exact HB.out | apply below_alloc | apply pw_below_drewN | apply below_drew1) | exact HB.out)⟩⟩
                          · rw [if_neg c61] at H
                            have c61b0 : (t200 == t173) = false := beq_eq_false_iff_ne.mpr c61
                            have c61b1 : (t200 != t173) = true := bne_iff_ne.mpr c61
                            (first | rw [c61b0] | (simp only [i64_w, i32_w]; rw [c61b0]) | skip)
                            have H' := Aside0.mk H
                            clear H
                            obtain ⟨Ao64, co64, eo64⟩ := Kd.R_slice HO203.out
                            subst eo64
                            obtain ⟨Ao65, co65, eo65⟩ := Kd.R_slice HO_8.out
                            subst eo65
                            go_wp2_with (first | ((with_reducible refine gate_callee (f := 9) rfl ?_); refine goesL_ (some 107) rfl rfl Try.func9 (by kernel_rfl) rfl #[.slice Ao64 t199.length co64, .slice Ao65 t172.length co65] rfl (by (try simp only [List.map_toArray, List.map_cons, List.map_nil]); first | done | rfl | (simp only [List.length_drop, List.length_take]; rfl)) ?_; (with_reducible refine (laws_eqInt64S.calls kj30 _ _ t199 _ _ t172 true _ ?side1 ?side2 ?side3 ?side4 A59.out).mono ?_); (case side1 => repeat (first | exact (Kd.R_reads' HO203.out).2.2 | (with_reducible refine Kd.C_alloc ?_ _) | (with_reducible refine Kd.C_drewN ?_ _) | (with_reducible refine Kd.C_drew ?_))); (case side2 => exact (Kd.R_reads' HO203.out).2.1); (case side3 => repeat (first | exact (Kd.R_reads' HO_8.out).2.2 | (with_reducible refine Kd.C_alloc ?_ _) | (with_reducible refine Kd.C_drewN ?_ _) | (with_reducible refine Kd.C_drew ?_))); (case side4 => exact (Kd.R_reads' HO_8.out).2.1); rintro e w' ⟨rfl, ⟨nd, rfl⟩⟩; refine ⟨_, rfl, ?_⟩))
                            go_meet
                            case rel => exact ⟨_, (true), (by first | rfl | (simp; done) | (simp [*]; done)), H', ⟨by have := HJ9.out; have := HJ30.out; first | omega | exact Nat.le_refl _⟩, ⟨by (with_reducible repeat (first | apply Kd.R_alloc | apply Kd.R_drewN | apply Kd.R_drew)); exact Kd.R_mono HO_12.out (fun _ hk => trivial)⟩, ⟨by repeat (first | (with_reducible first | exact HB.out | apply below_alloc | apply pw_below_drewN | apply below_drew1) | exact HB.out)⟩⟩
                        · replace c60 := Bool.eq_false_iff.mpr c60
                          subst c60
                          have H1 : (laws_FnExactCutRow.j2 kj30 t194 t193 true) = some true := by rw [if_neg (show ¬ (false = true) by decide)] at H; exact H
                          clear H
                          have H := H1
                          clear H1
                          have H' := Aside0.mk H
                          clear H
                          obtain ⟨Ao66, co66, eo66⟩ := Kd.R_slice HO203.out
                          subst eo66
                          obtain ⟨Ao67, co67, eo67⟩ := Kd.R_slice HO_8.out
                          subst eo67
                          go_wp2_with (first | ((with_reducible refine gate_callee (f := 9) rfl ?_); refine goesL_ (some 107) rfl rfl Try.func9 (by kernel_rfl) rfl #[.slice Ao66 t199.length co66, .slice Ao67 t172.length co67] rfl (by (try simp only [List.map_toArray, List.map_cons, List.map_nil]); first | done | rfl | (simp only [List.length_drop, List.length_take]; rfl)) ?_; (with_reducible refine (laws_eqInt64S.calls kj30 _ _ t199 _ _ t172 false _ ?side1 ?side2 ?side3 ?side4 A59.out).mono ?_); (case side1 => repeat (first | exact (Kd.R_reads' HO203.out).2.2 | (with_reducible refine Kd.C_alloc ?_ _) | (with_reducible refine Kd.C_drewN ?_ _) | (with_reducible refine Kd.C_drew ?_))); (case side2 => exact (Kd.R_reads' HO203.out).2.1); (case side3 => repeat (first | exact (Kd.R_reads' HO_8.out).2.2 | (with_reducible refine Kd.C_alloc ?_ _) | (with_reducible refine Kd.C_drewN ?_ _) | (with_reducible refine Kd.C_drew ?_))); (case side4 => exact (Kd.R_reads' HO_8.out).2.1); rintro e w' ⟨rfl, ⟨nd, rfl⟩⟩; refine ⟨_, rfl, ?_⟩))
                          go_meet
                          case rel => exact ⟨_, (true), (by first | rfl | (simp; done) | (simp [*]; done)), H', ⟨by have := HJ9.out; have := HJ30.out; first | omega | exact Nat.le_refl _⟩, ⟨by (with_reducible repeat (first | apply Kd.R_alloc | apply Kd.R_drewN | apply Kd.R_drew)); exact Kd.R_mono HO_12.out (fun _ hk => trivial)⟩, ⟨by repeat (first | (with_reducible first | exact HB.out | apply below_alloc | apply pw_below_drewN | apply below_drew1) | exact HB.out)⟩⟩
                      case rest =>
                        clear HC53
                        try clear c1
                        try clear c2
                        try clear p2
                        try clear c3
                        try clear c4
                        try clear c5
                        try clear c5b0
                        try clear c6
                        try clear c7
                        try clear c8
                        try clear c9
                        try clear c10
                        try clear c11
                        try clear c12
                        try clear c13
                        try clear c18
                        try clear c19
                        try clear c19b0
                        try clear c19b1
                        try clear c26
                        try clear c29
                        try clear c36
                        try clear c36b0
                        try clear c38
                        try clear c39
                        try clear c39b0
                        try clear c39b1
                        try clear c46
                        try clear c49
                        try clear c49b0
                        try clear c50
                        try clear c50b0
                        try clear c50b1
                        try clear c60
                        try clear c61
                        try clear c61b0
                        try clear c61b1
                        try clear p2
                        obtain ⟨kq, x118_52, rfl, HA, HJ52, HO_12, HB⟩ := hcut
                        have hl12_52 := (Kd.R_reads' HO_12.out).1
                        rw [hl12_52] at HO_12
                        (try simp only [hl12_52])
                        cases kq with
                        | zero => exact absurd HA.out (by simp [laws_FnExactCutRow.j2])
                        | succ kj52 =>
                          have H := HA.out
                          clear HA
                          simp only [laws_FnExactCutRow.j2] at H
                          by_cases c68 : x118_52 = true
                          · subst c68
                            have H1 : (some false) = some true := by rw [if_pos rfl] at H; exact H
                            clear H
                            have H := H1
                            clear H1
                            exact absurd (Option.some.inj H) (by decide)
                          · replace c68 := Bool.eq_false_iff.mpr c68
                            subst c68
                            have H1 : ((laws_heldInt64S.f kj52 t194 1).bind fun t205 => (if t205 < 0 then (some false) else (if t205 = t193 then (some true) else (some false)))) = some true := by rw [if_neg (show ¬ (false = true) by decide)] at H; exact H
                            clear H
                            have H := H1
                            clear H1
                            replace H := Option.bind_eq_some_iff.mp H
                            obtain ⟨t205, A690, H⟩ := H
                            replace H : (if t205 < 0 then (some false) else (if t205 = t193 then (some true) else (some false))) = some true := H
                            have A69 := Aside0.mk A690
                            clear A690
                            by_cases c70 : t205 < 0
                            · rw [if_pos c70] at H
                              have c70b0 : decide (t205 < 0) = true := decide_eq_true c70
                              clear c70
                              exact absurd (Option.some.inj H) (by decide)
                            · rw [if_neg c70] at H
                              have c70b0 : decide (t205 < 0) = false := decide_eq_false c70
                              clear c70
                              by_cases c71 : t205 = t193
                              · rw [if_pos c71] at H
                                have c71b0 : (t205 == t193) = true := beq_iff_eq.mpr c71
                                have c71b1 : (t205 != t193) = false := bne_eq_false_iff_eq.mpr c71
                                clear c71
                                clear H
                                go_wp2_with (first | ((with_reducible refine gate_callee (f := 13) rfl ?_); refine goesL_ (some 121) rfl rfl Try.func13 (by kernel_rfl) rfl #[.slice Ao54 t194.length co54, .int .i64 1] rfl (by (try simp only [List.map_toArray, List.map_cons, List.map_nil]); first | done | rfl | (simp only [List.length_drop, List.length_take]; rfl)) ?_; (with_reducible refine (laws_heldInt64S.calls kj52 _ _ t194 1 t205 _ ?side1 ?side2 A69.out).mono ?_); (case side1 => repeat (first | exact (Kd.R_reads' HO_12.out).2.2 | (with_reducible refine Kd.C_alloc ?_ _) | (with_reducible refine Kd.C_drewN ?_ _) | (with_reducible refine Kd.C_drew ?_))); (case side2 => exact (Kd.R_reads' HO_12.out).2.1); rintro e w' ⟨rfl, ⟨nd, rfl⟩⟩; refine ⟨_, rfl, ?_⟩))
                                go_ret
                                exact ⟨by first | rfl | (simp [errW_none, errW_some] <;> rfl) | (simp [*, errW_none, errW_some] <;> rfl), by repeat (first | (with_reducible first | exact HB.out | apply below_alloc | apply pw_below_drewN | apply below_drew1) | exact HB.out)⟩
                              · rw [if_neg c71] at H
                                have c71b0 : (t205 == t193) = false := beq_eq_false_iff_ne.mpr c71
                                have c71b1 : (t205 != t193) = true := bne_iff_ne.mpr c71
                                exact absurd (Option.some.inj H) (by decide)
                    · rw [if_neg c50] at H
                      have c50b0 : (t195 == t193) = false := beq_eq_false_iff_ne.mpr c50
                      have c50b1 : (t195 != t193) = true := bne_iff_ne.mpr c50
                      exact absurd (Option.some.inj H) (by decide)
          · replace c29 := Bool.eq_false_iff.mpr c29
            subst c29
            have H1 : (some false) = some true := by rw [if_neg (show ¬ (false = true) by decide)] at H; exact H
            clear H
            have H := H1
            clear H1
            exact absurd (Option.some.inj H) (by decide)

end Go.Proofs.Ytnabkphkdkdigaa.Q
