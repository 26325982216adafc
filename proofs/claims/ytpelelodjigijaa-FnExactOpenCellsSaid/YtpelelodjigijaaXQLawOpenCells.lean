-- By a program of this session's: of the print's words what this claim needs. Lean checks it.
import Derived.Test.YtpelelodjigijaaXQ0
import Derived.Test.YtpelelodjigijaaXQ20
import Derived.Test.YtpelelodjigijaaXQ21
import Derived.Test.YtpelelodjigijaaXQHCell
import Derived.Test.YtpelelodjigijaaXQHSquare
namespace Go.Proofs.Ytpelelodjigijaa.Q
open Go.RowKit Go.Proofs.YtpelelodjigijaaW.PrintWords Go.Proofs.YtpelelodjigijaaW.PrintLast Go.Proofs.YtpelelodjigijaaW.PrintMore
attribute [local go_sem] max2_int min2_int max_two min_two max_three min_three max_four min_four
set_option linter.unusedVariables false
set_option linter.unusedSimpArgs false
mutual
def laws_FnExactOpenCells.j0 : Nat → List (S46) → Int → List (S46) → Int → Bool → Int → Int → List (S35) → Int → Int → List (S38) → Option (Bool)
 | 0, _, _, _, _, _, _, _, _, _, _, _ => none
 | k + 1, x4, x5, x7, x8, x40, x469000, x469001, x469002, x485000, x485001, x485002 => if x40 = true then (some false) else ((laws_toSquare.f k x469000 x469001 x469002).bind fun bt490 => ((laws_eqSquare.f k x485000 x485001 x485002 bt490.1 bt490.2.1 bt490.2.2).bind fun t495 => (if t495 = true then ((laws_markSquare.f k x485000 x485001 x485002 1).bind fun bt496 => (if bt496.1 < 0 then (laws_FnExactOpenCells.j1 k x4 x5 x7 true x469000 x469001 x469002) else ((laws_eqCellS.f k x7 x4).bind fun t498 => (if t498 = true then (laws_FnExactOpenCells.j1 k x4 x5 x7 (x8 != x5) x469000 x469001 x469002) else (laws_FnExactOpenCells.j1 k x4 x5 x7 true x469000 x469001 x469002))))) else (some false))))
def laws_FnExactOpenCells.j1 : Nat → List (S46) → Int → List (S46) → Bool → Int → Int → List (S35) → Option (Bool)
 | 0, _, _, _, _, _, _, _ => none
 | k + 1, x4, x5, x7, x61, x469000, x469001, x469002 => if x61 = true then (some false) else ((laws_markCellS.f k x7 1).bind fun bt499 => ((laws_heldCellS.f k bt499.2 1).bind fun t501 => (if t501 < 0 then (some false) else (if t501 = bt499.1 then ((laws_toSquare.f k x469000 x469001 x469002).bind fun bt502 => ((impl_OpenCells.f k bt502.1 bt502.2.1 bt502.2.2).bind fun bt507 => ((laws_eqCellS.f k bt507.1 x4).bind fun t511 => (if t511 = true then (laws_FnExactOpenCells.j2 k bt499.2 bt499.1 (bt507.2 != x5)) else (laws_FnExactOpenCells.j2 k bt499.2 bt499.1 true))))) else (some false)))))
def laws_FnExactOpenCells.j2 : Nat → List (S46) → Int → Bool → Option (Bool)
 | 0, _, _, _ => none
 | k + 1, x7, x10, x87 => if x87 = true then (some false) else ((laws_heldCellS.f k x7 1).bind fun t512 => (if t512 < 0 then (some false) else (if t512 = x10 then (some true) else (some false))))
end
def laws_FnExactOpenCells.f (k : Nat) (a0_0 : Int) (a0_1 : Int) (l0_2 : List (S35)) : Option (Bool) := (laws_szSquare.f a0_0 a0_1 l0_2 1048576).bind fun t469 => (if t469 < 0 then (some true) else ((laws_toSquare.f k a0_0 a0_1 l0_2).bind fun bt470 => ((spec_OpenCells.f k bt470.1 bt470.2.1 bt470.2.2).bind fun bt475 => ((laws_toSquare.f k a0_0 a0_1 l0_2).bind fun bt479 => ((impl_OpenCells.f k bt479.1 bt479.2.1 bt479.2.2).bind fun bt485 => ((laws_eqCellS.f k bt485.1 bt475.1).bind fun t489 => (if t489 = true then (laws_FnExactOpenCells.j0 k bt475.1 bt475.2 bt485.1 bt485.2 (bt485.2 != bt475.2) a0_0 a0_1 l0_2 bt479.1 bt479.2.1 bt479.2.2) else (laws_FnExactOpenCells.j0 k bt475.1 bt475.2 bt485.1 bt485.2 true a0_0 a0_1 l0_2 bt479.1 bt479.2.1 bt479.2.2))))))))
theorem laws_FnExactOpenCells.mono_l : ∀ k, (∀ y0 y1 y2 y3 y4 y5 y6 y7 y8 y9 y10, LeO (laws_FnExactOpenCells.j0 k y0 y1 y2 y3 y4 y5 y6 y7 y8 y9 y10) (laws_FnExactOpenCells.j0 (k + 1) y0 y1 y2 y3 y4 y5 y6 y7 y8 y9 y10)) ∧ (∀ y0 y1 y2 y3 y4 y5 y6, LeO (laws_FnExactOpenCells.j1 k y0 y1 y2 y3 y4 y5 y6) (laws_FnExactOpenCells.j1 (k + 1) y0 y1 y2 y3 y4 y5 y6)) ∧ (∀ y0 y1 y2, LeO (laws_FnExactOpenCells.j2 k y0 y1 y2) (laws_FnExactOpenCells.j2 (k + 1) y0 y1 y2))
 | 0 => ⟨fun _ _ _ _ _ _ _ _ _ _ _ r h => by simp [laws_FnExactOpenCells.j0] at h, fun _ _ _ _ _ _ _ r h => by simp [laws_FnExactOpenCells.j1] at h, fun _ _ _ r h => by simp [laws_FnExactOpenCells.j2] at h⟩
 | k + 1 => by
  obtain ⟨ih0, ih1, ih2⟩ := laws_FnExactOpenCells.mono_l k; refine ⟨?_, ?_, ?_⟩
  ·
   intro y0 y1 y2 y3 y4 y5 y6 y7 y8 y9 y10
   unfold laws_FnExactOpenCells.j0
   repeat' first
   | (with_reducible exact ih0 _ _ _ _ _ _ _ _ _ _ _)
   | (with_reducible exact ih1 _ _ _ _ _ _ _)
   | (with_reducible exact ih2 _ _ _)
   | (with_reducible exact impl_OpenCells.mono _ _ _ _)
   | (with_reducible exact laws_eqCellS.mono _ _ _)
   | (with_reducible exact laws_eqSquare.mono _ _ _ _ _ _ _)
   | (with_reducible exact laws_heldCellS.mono _ _ _)
   | (with_reducible exact laws_markCellS.mono _ _ _)
   | (with_reducible exact laws_markSquare.mono _ _ _ _ _)
   | (with_reducible exact laws_toSquare.mono _ _ _ _)
   | (with_reducible exact spec_OpenCells.mono _ _ _ _)
   | (with_reducible exact LeO.refl _)
   | (with_reducible exact LeO.none _)
   | (with_reducible refine LeO.ite ?_ ?_)
   | (with_reducible refine LeO.bind ?_ (fun _ => ?_))
   | exact ih0 _ _ _ _ _ _ _ _ _ _ _
   | exact ih1 _ _ _ _ _ _ _
   | exact ih2 _ _ _
   | exact impl_OpenCells.mono _ _ _ _
   | exact laws_eqCellS.mono _ _ _
   | exact laws_eqSquare.mono _ _ _ _ _ _ _
   | exact laws_heldCellS.mono _ _ _
   | exact laws_markCellS.mono _ _ _
   | exact laws_markSquare.mono _ _ _ _ _
   | exact laws_toSquare.mono _ _ _ _
   | exact spec_OpenCells.mono _ _ _ _
   | exact LeO.none _
   | refine LeO.ite ?_ ?_
   | refine LeO.bind ?_ (fun _ => ?_)
  ·
   intro y0 y1 y2 y3 y4 y5 y6
   unfold laws_FnExactOpenCells.j1
   repeat' first
   | (with_reducible exact ih0 _ _ _ _ _ _ _ _ _ _ _)
   | (with_reducible exact ih1 _ _ _ _ _ _ _)
   | (with_reducible exact ih2 _ _ _)
   | (with_reducible exact impl_OpenCells.mono _ _ _ _)
   | (with_reducible exact laws_eqCellS.mono _ _ _)
   | (with_reducible exact laws_eqSquare.mono _ _ _ _ _ _ _)
   | (with_reducible exact laws_heldCellS.mono _ _ _)
   | (with_reducible exact laws_markCellS.mono _ _ _)
   | (with_reducible exact laws_markSquare.mono _ _ _ _ _)
   | (with_reducible exact laws_toSquare.mono _ _ _ _)
   | (with_reducible exact spec_OpenCells.mono _ _ _ _)
   | (with_reducible exact LeO.refl _)
   | (with_reducible exact LeO.none _)
   | (with_reducible refine LeO.ite ?_ ?_)
   | (with_reducible refine LeO.bind ?_ (fun _ => ?_))
   | exact ih0 _ _ _ _ _ _ _ _ _ _ _
   | exact ih1 _ _ _ _ _ _ _
   | exact ih2 _ _ _
   | exact impl_OpenCells.mono _ _ _ _
   | exact laws_eqCellS.mono _ _ _
   | exact laws_eqSquare.mono _ _ _ _ _ _ _
   | exact laws_heldCellS.mono _ _ _
   | exact laws_markCellS.mono _ _ _
   | exact laws_markSquare.mono _ _ _ _ _
   | exact laws_toSquare.mono _ _ _ _
   | exact spec_OpenCells.mono _ _ _ _
   | exact LeO.none _
   | refine LeO.ite ?_ ?_
   | refine LeO.bind ?_ (fun _ => ?_)
  ·
   intro y0 y1 y2
   unfold laws_FnExactOpenCells.j2
   repeat' first
   | (with_reducible exact ih0 _ _ _ _ _ _ _ _ _ _ _)
   | (with_reducible exact ih1 _ _ _ _ _ _ _)
   | (with_reducible exact ih2 _ _ _)
   | (with_reducible exact impl_OpenCells.mono _ _ _ _)
   | (with_reducible exact laws_eqCellS.mono _ _ _)
   | (with_reducible exact laws_eqSquare.mono _ _ _ _ _ _ _)
   | (with_reducible exact laws_heldCellS.mono _ _ _)
   | (with_reducible exact laws_markCellS.mono _ _ _)
   | (with_reducible exact laws_markSquare.mono _ _ _ _ _)
   | (with_reducible exact laws_toSquare.mono _ _ _ _)
   | (with_reducible exact spec_OpenCells.mono _ _ _ _)
   | (with_reducible exact LeO.refl _)
   | (with_reducible exact LeO.none _)
   | (with_reducible refine LeO.ite ?_ ?_)
   | (with_reducible refine LeO.bind ?_ (fun _ => ?_))
   | exact ih0 _ _ _ _ _ _ _ _ _ _ _
   | exact ih1 _ _ _ _ _ _ _
   | exact ih2 _ _ _
   | exact impl_OpenCells.mono _ _ _ _
   | exact laws_eqCellS.mono _ _ _
   | exact laws_eqSquare.mono _ _ _ _ _ _ _
   | exact laws_heldCellS.mono _ _ _
   | exact laws_markCellS.mono _ _ _
   | exact laws_markSquare.mono _ _ _ _ _
   | exact laws_toSquare.mono _ _ _ _
   | exact spec_OpenCells.mono _ _ _ _
   | exact LeO.none _
   | refine LeO.ite ?_ ?_
   | refine LeO.bind ?_ (fun _ => ?_)
theorem laws_FnExactOpenCells.mono : ∀ a0 a1 a2 k, LeO (laws_FnExactOpenCells.f k a0 a1 a2) (laws_FnExactOpenCells.f (k + 1) a0 a1 a2) := by
 intro a0 a1 a2 k; obtain ⟨ih0, ih1, ih2⟩ := laws_FnExactOpenCells.mono_l k
 unfold laws_FnExactOpenCells.f
 repeat' first
   | (with_reducible exact ih0 _ _ _ _ _ _ _ _ _ _ _)
   | (with_reducible exact ih1 _ _ _ _ _ _ _)
   | (with_reducible exact ih2 _ _ _)
   | (with_reducible exact impl_OpenCells.mono _ _ _ _)
   | (with_reducible exact laws_eqCellS.mono _ _ _)
   | (with_reducible exact laws_eqSquare.mono _ _ _ _ _ _ _)
   | (with_reducible exact laws_heldCellS.mono _ _ _)
   | (with_reducible exact laws_markCellS.mono _ _ _)
   | (with_reducible exact laws_markSquare.mono _ _ _ _ _)
   | (with_reducible exact laws_toSquare.mono _ _ _ _)
   | (with_reducible exact spec_OpenCells.mono _ _ _ _)
   | (with_reducible exact LeO.refl _)
   | (with_reducible exact LeO.none _)
   | (with_reducible refine LeO.ite ?_ ?_)
   | (with_reducible refine LeO.bind ?_ (fun _ => ?_))
   | exact ih0 _ _ _ _ _ _ _ _ _ _ _
   | exact ih1 _ _ _ _ _ _ _
   | exact ih2 _ _ _
   | exact impl_OpenCells.mono _ _ _ _
   | exact laws_eqCellS.mono _ _ _
   | exact laws_eqSquare.mono _ _ _ _ _ _ _
   | exact laws_heldCellS.mono _ _ _
   | exact laws_markCellS.mono _ _ _
   | exact laws_markSquare.mono _ _ _ _ _
   | exact laws_toSquare.mono _ _ _ _
   | exact spec_OpenCells.mono _ _ _ _
   | exact LeO.none _
   | refine LeO.ite ?_ ?_
   | refine LeO.bind ?_ (fun _ => ?_)
set_option maxHeartbeats 8000000 in
set_option maxRecDepth 100000 in
theorem laws_FnExactOpenCells.calls (k : Nat) (a0_0 : Int) (a0_1 : Int) (A0_2 : Option Addr) (c0_2 : Nat) (l0_2 : List (S35)) (w : World) (hr0_2 : Kd.C k35 w A0_2 l0_2.length l0_2) (hc0_2 : l0_2.length ≤ c0_2) (h : laws_FnExactOpenCells.f k a0_0 a0_1 l0_2 = some true) :
  Calls Try.prog 7 #[.agg #[.int .i8 a0_0, .int .i8 a0_1, .slice A0_2 l0_2.length c0_2]] w fun e w' => e = .returned (.bool true) ∧ Below w.heap.size w w' := by
 have hu25 := Try.underlying25; have hu30 := Try.underlying30; have HR0_2 := am_ hr0_2; have HC0_2 := am_ hc0_2; clear hr0_2 hc0_2; have HB := am_ (Below.refl w.heap.size w); have H : ((laws_szSquare.f a0_0 a0_1 l0_2 1048576).bind fun t469 => (if t469 < 0 then (some true) else ((laws_toSquare.f k a0_0 a0_1 l0_2).bind fun bt470 => ((spec_OpenCells.f k bt470.1 bt470.2.1 bt470.2.2).bind fun bt475 => ((laws_toSquare.f k a0_0 a0_1 l0_2).bind fun bt479 => ((impl_OpenCells.f k bt479.1 bt479.2.1 bt479.2.2).bind fun bt485 => ((laws_eqCellS.f k bt485.1 bt475.1).bind fun t489 => (if t489 = true then (laws_FnExactOpenCells.j0 k bt475.1 bt475.2 bt485.1 bt485.2 (bt485.2 != bt475.2) a0_0 a0_1 l0_2 bt479.1 bt479.2.1 bt479.2.2) else (laws_FnExactOpenCells.j0 k bt475.1 bt475.2 bt485.1 bt485.2 true a0_0 a0_1 l0_2 bt479.1 bt479.2.1 bt479.2.2))))))))) = some true := h; clear h; replace H := Option.bind_eq_some_iff.mp H; obtain ⟨t469, A20, H⟩ := H; replace H : (if t469 < 0 then (some true) else ((laws_toSquare.f k a0_0 a0_1 l0_2).bind fun bt470 => ((spec_OpenCells.f k bt470.1 bt470.2.1 bt470.2.2).bind fun bt475 => ((laws_toSquare.f k a0_0 a0_1 l0_2).bind fun bt479 => ((impl_OpenCells.f k bt479.1 bt479.2.1 bt479.2.2).bind fun bt485 => ((laws_eqCellS.f k bt485.1 bt475.1).bind fun t489 => (if t489 = true then (laws_FnExactOpenCells.j0 k bt475.1 bt475.2 bt485.1 bt485.2 (bt485.2 != bt475.2) a0_0 a0_1 l0_2 bt479.1 bt479.2.1 bt479.2.2) else (laws_FnExactOpenCells.j0 k bt475.1 bt475.2 bt485.1 bt485.2 true a0_0 a0_1 l0_2 bt479.1 bt479.2.1 bt479.2.2)))))))) = some true := H; have A2 := am_ A20; clear A20
 by_cases c3 : t469 < 0
 ·
  rw [if_pos c3] at H; have c3b0 : decide (t469 < 0) = true := decide_eq_true c3; clear c3; clear H
  go_enter Try.func7, Try.ntmps7
  go_wp2_with (first | ((with_reducible refine gate_dst (N := 1) rfl ?_); refine box_event ?hg (N := 1) ?hd (cs := #[.int .i8 a0_0, .int .i8 a0_1, .slice A0_2 l0_2.length c0_2]) (t := 25) ?hr ?_; (case hd => rfl); (case hg => rfl); (case hr => first | (go_simp; done) | (go_simp; rfl)); intro gb468 hg w4 hbox hb; have n0_ := am_ (bT_ (by repeat (first | (with_reducible first | exact HB.out | apply bA_ | apply bN_ | apply bD_) | exact HB.out)) hb); have n1_ := am_ (hbox); have n2_ := am_ ((by rw [hg]; exact (below_size (by repeat (first | (with_reducible first | exact HB.out | apply bA_ | apply bN_ | apply bD_) | exact HB.out))) : w.heap.size ≤ gb468)); have n3_ := am_ ((by rw [hg]; exact (below_size (by repeat (first | (with_reducible first | exact HB.out | apply bA_ | apply bN_ | apply bD_) | exact HB.out))) : w.heap.size ≤ gb468)); clear HB; have HB := n0_; have BK468 := n1_; have GW468 := n2_; have GE468 := n3_; clear n0_ n1_ n2_ n3_; clear hb hbox hg; have hcz5_0 : w4.cell? ⟨gb468, 0, none⟩ = some (.int .i8 a0_0) := (kC_ BK468.out 0).trans rfl; have hcz5_1 : w4.cell? ⟨gb468, 1, none⟩ = some (.int .i8 a0_1) := (kC_ BK468.out 1).trans rfl; have hcz5_2 : w4.cell? ⟨gb468, 2, none⟩ = some (.slice A0_2 l0_2.length c0_2) := (kC_ BK468.out 2).trans rfl; have hfz5_0 := kF_ BK468.out 0; have hfz5_1 := kF_ BK468.out 1; have hfz5_2 := kF_ BK468.out 2) | ((with_reducible refine gate_callee (f := 11) rfl ?_); refine goesL_ (some 16) rfl rfl Try.func11 (by kernel_rfl) rfl #[.agg #[.int .i8 a0_0, .int .i8 a0_1, .slice A0_2 l0_2.length c0_2], .int .i64 1048576] rfl (by (try simp only [List.map_toArray, List.map_cons, List.map_nil]); first | done | rfl | (simp only [List.length_drop, List.length_take]; rfl)) ?_; (with_reducible refine (laws_szSquare.calls a0_0 a0_1 _ _ l0_2 1048576 t469 _ ?side1 ?side2 A2.out).mono ?_); (case side1 => repeat (first | exact (Kd.C_below HR0_2.out HB.out) | (with_reducible refine Kd.C_alloc ?_ _) | (with_reducible refine Kd.C_drewN ?_ _) | (with_reducible refine Kd.C_drew ?_))); (case side2 => exact HC0_2.out); rintro e w6 ⟨rfl, hb⟩; refine ⟨_, rfl, ?_⟩; have n0_ := am_ (blk_below (g := gb468) (o := .cells #[.int .i8 a0_0, .int .i8 a0_1, .slice A0_2 l0_2.length c0_2] 25 (0, 0)) (by (with_reducible repeat (first | refine kN_ ?_ _ | refine kD_ ?_ | refine kA_ ?_ _)); exact BK468.out) hb); have n1_ := am_ (bT_ (by repeat (first | (with_reducible first | exact HB.out | apply bA_ | apply bN_ | apply bD_ | refine bS_ ?_ GE468.out) | exact HB.out)) hb); clear BK468; clear HB; have BK468 := n0_; have HB := n1_; clear n0_ n1_; (try clear hb); (try clear hb2); (try clear hk); (try clear hi)))
  go_ret
  exact ⟨by first | rfl | (simp [errW_none, errW_some] <;> rfl) | (simp [*, errW_none, errW_some] <;> rfl), by repeat (first | (with_reducible first | exact HB.out | apply bA_ | apply bN_ | apply bD_ | refine bS_ ?_ GE468.out) | exact HB.out)⟩
 ·
  rw [if_neg c3] at H; have c3b0 : decide (t469 < 0) = false := decide_eq_false c3; clear c3; replace H := Option.bind_eq_some_iff.mp H; obtain ⟨⟨t470, t471, t472⟩, A70, H⟩ := H; replace H : ((spec_OpenCells.f k t470 t471 t472).bind fun bt475 => ((laws_toSquare.f k a0_0 a0_1 l0_2).bind fun bt479 => ((impl_OpenCells.f k bt479.1 bt479.2.1 bt479.2.2).bind fun bt485 => ((laws_eqCellS.f k bt485.1 bt475.1).bind fun t489 => (if t489 = true then (laws_FnExactOpenCells.j0 k bt475.1 bt475.2 bt485.1 bt485.2 (bt485.2 != bt475.2) a0_0 a0_1 l0_2 bt479.1 bt479.2.1 bt479.2.2) else (laws_FnExactOpenCells.j0 k bt475.1 bt475.2 bt485.1 bt485.2 true a0_0 a0_1 l0_2 bt479.1 bt479.2.1 bt479.2.2)))))) = some true := H; have A7 := am_ A70; clear A70; replace H := Option.bind_eq_some_iff.mp H; obtain ⟨⟨t475, t478⟩, A80, H⟩ := H; replace H : ((laws_toSquare.f k a0_0 a0_1 l0_2).bind fun bt479 => ((impl_OpenCells.f k bt479.1 bt479.2.1 bt479.2.2).bind fun bt485 => ((laws_eqCellS.f k bt485.1 t475).bind fun t489 => (if t489 = true then (laws_FnExactOpenCells.j0 k t475 t478 bt485.1 bt485.2 (bt485.2 != t478) a0_0 a0_1 l0_2 bt479.1 bt479.2.1 bt479.2.2) else (laws_FnExactOpenCells.j0 k t475 t478 bt485.1 bt485.2 true a0_0 a0_1 l0_2 bt479.1 bt479.2.1 bt479.2.2))))) = some true := H; have A8 := am_ A80; clear A80; replace H := Option.bind_eq_some_iff.mp H; obtain ⟨⟨t479, t480, t481⟩, A90, H⟩ := H; replace H : ((impl_OpenCells.f k t479 t480 t481).bind fun bt485 => ((laws_eqCellS.f k bt485.1 t475).bind fun t489 => (if t489 = true then (laws_FnExactOpenCells.j0 k t475 t478 bt485.1 bt485.2 (bt485.2 != t478) a0_0 a0_1 l0_2 t479 t480 t481) else (laws_FnExactOpenCells.j0 k t475 t478 bt485.1 bt485.2 true a0_0 a0_1 l0_2 t479 t480 t481)))) = some true := H; have A9 := am_ A90; clear A90; replace H := Option.bind_eq_some_iff.mp H; obtain ⟨⟨t485, t488⟩, A100, H⟩ := H; replace H : ((laws_eqCellS.f k t485 t475).bind fun t489 => (if t489 = true then (laws_FnExactOpenCells.j0 k t475 t478 t485 t488 (t488 != t478) a0_0 a0_1 l0_2 t479 t480 t481) else (laws_FnExactOpenCells.j0 k t475 t478 t485 t488 true a0_0 a0_1 l0_2 t479 t480 t481))) = some true := H; have A10 := am_ A100; clear A100; have HC11 := am_ H; clear H
  go_enter Try.func7, Try.ntmps7
  go_upto_region 8 with (first | ((with_reducible refine gate_dst (N := 1) rfl ?_); refine box_event ?hg (N := 1) ?hd (cs := #[.int .i8 a0_0, .int .i8 a0_1, .slice A0_2 l0_2.length c0_2]) (t := 25) ?hr ?_; (case hd => rfl); (case hg => rfl); (case hr => first | (go_simp; done) | (go_simp; rfl)); intro gb468 hg w12 hbox hb; have n0_ := am_ (bT_ (by repeat (first | (with_reducible first | exact HB.out | apply bA_ | apply bN_ | apply bD_) | exact HB.out)) hb); have n1_ := am_ (hbox); have n2_ := am_ ((by rw [hg]; exact (below_size (by repeat (first | (with_reducible first | exact HB.out | apply bA_ | apply bN_ | apply bD_) | exact HB.out))) : w.heap.size ≤ gb468)); have n3_ := am_ ((by rw [hg]; exact (below_size (by repeat (first | (with_reducible first | exact HB.out | apply bA_ | apply bN_ | apply bD_) | exact HB.out))) : w.heap.size ≤ gb468)); clear HB; have HB := n0_; have BK468 := n1_; have GW468 := n2_; have GE468 := n3_; clear n0_ n1_ n2_ n3_; clear hb hbox hg; have hcz13_0 : w12.cell? ⟨gb468, 0, none⟩ = some (.int .i8 a0_0) := (kC_ BK468.out 0).trans rfl; have hcz13_1 : w12.cell? ⟨gb468, 1, none⟩ = some (.int .i8 a0_1) := (kC_ BK468.out 1).trans rfl; have hcz13_2 : w12.cell? ⟨gb468, 2, none⟩ = some (.slice A0_2 l0_2.length c0_2) := (kC_ BK468.out 2).trans rfl; have hfz13_0 := kF_ BK468.out 0; have hfz13_1 := kF_ BK468.out 1; have hfz13_2 := kF_ BK468.out 2) | ((with_reducible refine gate_callee (f := 11) rfl ?_); refine goesL_ (some 16) rfl rfl Try.func11 (by kernel_rfl) rfl #[.agg #[.int .i8 a0_0, .int .i8 a0_1, .slice A0_2 l0_2.length c0_2], .int .i64 1048576] rfl (by (try simp only [List.map_toArray, List.map_cons, List.map_nil]); first | done | rfl | (simp only [List.length_drop, List.length_take]; rfl)) ?_; (with_reducible refine (laws_szSquare.calls a0_0 a0_1 _ _ l0_2 1048576 t469 _ ?side1 ?side2 A2.out).mono ?_); (case side1 => repeat (first | exact (Kd.C_below HR0_2.out HB.out) | (with_reducible refine Kd.C_alloc ?_ _) | (with_reducible refine Kd.C_drewN ?_ _) | (with_reducible refine Kd.C_drew ?_))); (case side2 => exact HC0_2.out); rintro e w14 ⟨rfl, hb⟩; refine ⟨_, rfl, ?_⟩; have n0_ := am_ (blk_below (g := gb468) (o := .cells #[.int .i8 a0_0, .int .i8 a0_1, .slice A0_2 l0_2.length c0_2] 25 (0, 0)) (by (with_reducible repeat (first | refine kN_ ?_ _ | refine kD_ ?_ | refine kA_ ?_ _)); exact BK468.out) hb); have n1_ := am_ (bT_ (by repeat (first | (with_reducible first | exact HB.out | apply bA_ | apply bN_ | apply bD_ | refine bS_ ?_ GE468.out) | exact HB.out)) hb); clear BK468; clear HB; have BK468 := n0_; have HB := n1_; clear n0_ n1_; (try clear hb); (try clear hb2); (try clear hk); (try clear hi); have hcz15_0 : w14.cell? ⟨gb468, 0, none⟩ = some (.int .i8 a0_0) := (kC_ BK468.out 0).trans rfl; have hcz15_1 : w14.cell? ⟨gb468, 1, none⟩ = some (.int .i8 a0_1) := (kC_ BK468.out 1).trans rfl; have hcz15_2 : w14.cell? ⟨gb468, 2, none⟩ = some (.slice A0_2 l0_2.length c0_2) := (kC_ BK468.out 2).trans rfl; have hfz15_0 := kF_ BK468.out 0; have hfz15_1 := kF_ BK468.out 1; have hfz15_2 := kF_ BK468.out 2) | ((with_reducible refine gate_callee (f := 13) rfl ?_); refine goesL_ (some 21) rfl rfl Try.func13 (by kernel_rfl) rfl #[.agg #[.int .i8 a0_0, .int .i8 a0_1, .slice A0_2 l0_2.length c0_2]] rfl (by (try simp only [List.map_toArray, List.map_cons, List.map_nil]); first | done | rfl | (simp only [List.length_drop, List.length_take]; rfl)) ?_; (with_reducible refine (laws_toSquare.calls k a0_0 a0_1 _ _ l0_2 t470 t471 t472 _ ?side1 ?side2 A7.out).mono ?_); (case side1 => repeat (first | exact (Kd.C_below HR0_2.out HB.out) | (with_reducible refine Kd.C_alloc ?_ _) | (with_reducible refine Kd.C_drewN ?_ _) | (with_reducible refine Kd.C_drew ?_))); (case side2 => exact HC0_2.out); rintro e w16 ⟨v473, rfl, ho0, hb⟩; refine ⟨_, rfl, ?_⟩; have n0_ := am_ (Kd.R_lower ho0 (below_size (by repeat (first | (with_reducible first | exact HB.out | apply bA_ | apply bN_ | apply bD_ | refine bS_ ?_ GE468.out) | exact HB.out)))); have n1_ := am_ (blk_below (g := gb468) (o := .cells #[.int .i8 a0_0, .int .i8 a0_1, .slice A0_2 l0_2.length c0_2] 25 (0, 0)) (by (with_reducible repeat (first | refine kN_ ?_ _ | refine kD_ ?_ | refine kA_ ?_ _)); exact BK468.out) hb); have n2_ := am_ (bT_ (by repeat (first | (with_reducible first | exact HB.out | apply bA_ | apply bN_ | apply bD_ | refine bS_ ?_ GE468.out) | exact HB.out)) hb); clear BK468; clear HB; have HO474 := n0_; have BK468 := n1_; have HB := n2_; clear n0_ n1_ n2_; (try clear hb); (try clear hb2); (try clear hk); (try clear hi); (try clear ho0); obtain ⟨Ao17, co17, eo17⟩ := Kd.R_slice HO474.out; subst eo17) | ((with_reducible refine gate_callee (f := 24) rfl ?_); refine goesL_ (some 22) rfl rfl Try.func24 (by kernel_rfl) rfl #[.agg #[.int .i8 t470, .int .i8 t471, .slice Ao17 t472.length co17]] rfl (by (try simp only [List.map_toArray, List.map_cons, List.map_nil]); first | done | rfl | (simp only [List.length_drop, List.length_take]; rfl)) ?_; (with_reducible refine (spec_OpenCells.calls k t470 t471 _ _ t472 t475 t478 _ ?side1 ?side2 A8.out).mono ?_); (case side1 => repeat (first | exact (Kd.R_reads' HO474.out).2.2 | (with_reducible refine Kd.C_alloc ?_ _) | (with_reducible refine Kd.C_drewN ?_ _) | (with_reducible refine Kd.C_drew ?_))); (case side2 => exact (Kd.R_reads' HO474.out).2.1); rintro e w18 ⟨v476, rfl, ho0, hb⟩; refine ⟨_, rfl, ?_⟩; have n0_ := am_ (Kd.R_below (by (with_reducible repeat (first | apply Kd.R_alloc | apply Kd.R_drewN | apply Kd.R_drew)); exact HO474.out) hb); have n1_ := am_ (Kd.R_lower ho0 (below_size (by repeat (first | (with_reducible first | exact HB.out | apply bA_ | apply bN_ | apply bD_ | refine bS_ ?_ GE468.out) | exact HB.out)))); have n2_ := am_ (blk_below (g := gb468) (o := .cells #[.int .i8 a0_0, .int .i8 a0_1, .slice A0_2 l0_2.length c0_2] 25 (0, 0)) (by (with_reducible repeat (first | refine kN_ ?_ _ | refine kD_ ?_ | refine kA_ ?_ _)); exact BK468.out) hb); have n3_ := am_ (bT_ (by repeat (first | (with_reducible first | exact HB.out | apply bA_ | apply bN_ | apply bD_ | refine bS_ ?_ GE468.out) | exact HB.out)) hb); clear HO474; clear BK468; clear HB; have HO474 := n0_; have HO477 := n1_; have BK468 := n2_; have HB := n3_; clear n0_ n1_ n2_ n3_; (try clear hb); (try clear hb2); (try clear hk); (try clear hi); (try clear ho0); have hcz19_0 : w18.cell? ⟨gb468, 0, none⟩ = some (.int .i8 a0_0) := (kC_ BK468.out 0).trans rfl; have hcz19_1 : w18.cell? ⟨gb468, 1, none⟩ = some (.int .i8 a0_1) := (kC_ BK468.out 1).trans rfl; have hcz19_2 : w18.cell? ⟨gb468, 2, none⟩ = some (.slice A0_2 l0_2.length c0_2) := (kC_ BK468.out 2).trans rfl; have hfz19_0 := kF_ BK468.out 0; have hfz19_1 := kF_ BK468.out 1; have hfz19_2 := kF_ BK468.out 2) | ((with_reducible refine gate_callee (f := 13) rfl ?_); refine goesL_ (some 26) rfl rfl Try.func13 (by kernel_rfl) rfl #[.agg #[.int .i8 a0_0, .int .i8 a0_1, .slice A0_2 l0_2.length c0_2]] rfl (by (try simp only [List.map_toArray, List.map_cons, List.map_nil]); first | done | rfl | (simp only [List.length_drop, List.length_take]; rfl)) ?_; (with_reducible refine (laws_toSquare.calls k a0_0 a0_1 _ _ l0_2 t479 t480 t481 _ ?side1 ?side2 A9.out).mono ?_); (case side1 => repeat (first | exact (Kd.C_below HR0_2.out HB.out) | (with_reducible refine Kd.C_alloc ?_ _) | (with_reducible refine Kd.C_drewN ?_ _) | (with_reducible refine Kd.C_drew ?_))); (case side2 => exact HC0_2.out); rintro e w20 ⟨v482, rfl, ho0, hb⟩; refine ⟨_, rfl, ?_⟩; have n0_ := am_ (Kd.R_elder' (by (with_reducible repeat (first | apply Kd.R_alloc | apply Kd.R_drewN | apply Kd.R_drew)); exact HO474.out) (Kd.R_base ho0) hb); have n1_ := am_ (Kd.R_below (by (with_reducible repeat (first | apply Kd.R_alloc | apply Kd.R_drewN | apply Kd.R_drew)); exact HO477.out) hb); have n2_ := am_ (Kd.R_lower (Kd.R_new' ho0 (Kd.R_lt (by (with_reducible repeat (first | apply Kd.R_alloc | apply Kd.R_drewN | apply Kd.R_drew)); exact HO474.out))) (below_size (by repeat (first | (with_reducible first | exact HB.out | apply bA_ | apply bN_ | apply bD_ | refine bS_ ?_ GE468.out) | exact HB.out)))); have n3_ := am_ (blk_below (g := gb468) (o := .cells #[.int .i8 a0_0, .int .i8 a0_1, .slice A0_2 l0_2.length c0_2] 25 (0, 0)) (by (with_reducible repeat (first | refine kN_ ?_ _ | refine kD_ ?_ | refine kA_ ?_ _)); exact BK468.out) hb); have n4_ := am_ (bT_ (by repeat (first | (with_reducible first | exact HB.out | apply bA_ | apply bN_ | apply bD_ | refine bS_ ?_ GE468.out) | exact HB.out)) hb); clear HO474; clear HO477; clear BK468; clear HB; have HO474 := n0_; have HO477 := n1_; have HO483 := n2_; have BK468 := n3_; have HB := n4_; clear n0_ n1_ n2_ n3_ n4_; (try clear hb); (try clear hb2); (try clear hk); (try clear hi); (try clear ho0)) | ((with_reducible refine gate_dst (N := 6) rfl ?_); refine box_event ?hg (N := 6) ?hd (cs := #[.int .i8 0, .int .i8 0, .slice none 0 0]) (t := 30) ?hr ?_; (case hd => rfl); (case hg => rfl); (case hr => first | (go_simp; done) | (go_simp; rfl)); intro gb484 hg w21 hbox hb; have n0_ := am_ (Kd.R_below (by (with_reducible repeat (first | apply Kd.R_alloc | apply Kd.R_drewN | apply Kd.R_drew)); exact HO474.out) hb); have n1_ := am_ (Kd.R_below (by (with_reducible repeat (first | apply Kd.R_alloc | apply Kd.R_drewN | apply Kd.R_drew)); exact HO477.out) hb); have n2_ := am_ (Kd.R_below (by (with_reducible repeat (first | apply Kd.R_alloc | apply Kd.R_drewN | apply Kd.R_drew)); exact HO483.out) hb); have n3_ := am_ (blk_below (g := gb468) (o := .cells #[.int .i8 a0_0, .int .i8 a0_1, .slice A0_2 l0_2.length c0_2] 25 (0, 0)) (by (with_reducible repeat (first | refine kN_ ?_ _ | refine kD_ ?_ | refine kA_ ?_ _)); exact BK468.out) hb); have n4_ := am_ (bT_ (by repeat (first | (with_reducible first | exact HB.out | apply bA_ | apply bN_ | apply bD_ | refine bS_ ?_ GE468.out) | exact HB.out)) hb); have n5_ := am_ (hbox); have n6_ := am_ ((by rw [hg]; exact (below_size (by repeat (first | (with_reducible first | exact HB.out | apply bA_ | apply bN_ | apply bD_ | refine bS_ ?_ GE468.out) | exact HB.out))) : w.heap.size ≤ gb484)); have n7_ := am_ ((by rw [hg]; exact (below_size (by repeat (first | (with_reducible first | exact HB.out | apply bA_ | apply bN_ | apply bD_ | refine bS_ ?_ GE468.out) | exact HB.out))) : w.heap.size ≤ gb484)); have n8_ := am_ ((by rw [hg]; exact Nat.ne_of_lt (blk_lt (g := gb468) (o := .cells #[.int .i8 a0_0, .int .i8 a0_1, .slice A0_2 l0_2.length c0_2] 25 (0, 0)) (by (with_reducible repeat (first | refine kN_ ?_ _ | refine kD_ ?_ | refine kA_ ?_ _)); exact BK468.out)) : gb468 ≠ gb484)); have n9_ := am_ ((by rw [hg]; exact Nat.ne_of_gt (blk_lt (g := gb468) (o := .cells #[.int .i8 a0_0, .int .i8 a0_1, .slice A0_2 l0_2.length c0_2] 25 (0, 0)) (by (with_reducible repeat (first | refine kN_ ?_ _ | refine kD_ ?_ | refine kA_ ?_ _)); exact BK468.out)) : gb484 ≠ gb468)); clear HO474; clear HO477; clear HO483; clear BK468; clear HB; have HO474 := n0_; have HO477 := n1_; have HO483 := n2_; have BK468 := n3_; have HB := n4_; have BK484 := n5_; have GW484 := n6_; have GE484 := n7_; have NB468_484 := n8_; have NB484_468 := n9_; clear n0_ n1_ n2_ n3_ n4_ n5_ n6_ n7_ n8_ n9_; clear hb hbox hg; have hnb22 := NB484_468.out; have hnc22 := NB468_484.out; have hcz23_0 : w21.cell? ⟨gb484, 0, none⟩ = some (.int .i8 0) := (kC_ BK484.out 0).trans rfl; have hcz23_1 : w21.cell? ⟨gb484, 1, none⟩ = some (.int .i8 0) := (kC_ BK484.out 1).trans rfl; have hcz23_2 : w21.cell? ⟨gb484, 2, none⟩ = some (.slice none 0 0) := (kC_ BK484.out 2).trans rfl; have hfz23_0 := kF_ BK484.out 0; have hfz23_1 := kF_ BK484.out 1; have hfz23_2 := kF_ BK484.out 2; obtain ⟨Ao24, co24, eo24⟩ := Kd.R_slice HO483.out; subst eo24) | ((with_reducible refine gate_callee (f := 25) rfl ?_); refine goesL_ (some 29) rfl rfl Try.func25 (by kernel_rfl) rfl #[.agg #[.int .i8 t479, .int .i8 t480, .slice Ao24 t481.length co24]] rfl (by (try simp only [List.map_toArray, List.map_cons, List.map_nil]); first | done | rfl | (simp only [List.length_drop, List.length_take]; rfl)) ?_; (with_reducible refine (impl_OpenCells.calls k t479 t480 _ _ t481 t485 t488 _ ?side1 ?side2 A10.out).mono ?_); (case side1 => refine (Kd.R_reads' (e := 38) (base := w.heap.size) (ok := fun k_ => (True ∧ some k_ ≠ (.slice Ao17 t472.length co17 : Value).ownBlock)) (n := t481.length) (c := co24) ?_).2.2; exact (by (with_reducible repeat (first | apply Kd.R_alloc | apply Kd.R_drewN | apply Kd.R_drew)); exact (Kd.R_mono (Kd.R_far (p := ⟨gb484, 2, none⟩) (Kd.R_far (p := ⟨gb484, 1, none⟩) (Kd.R_far (p := ⟨gb484, 0, none⟩) (Kd.R_types HO483.out BK484.out (by decide)) (fun _ hk => hk.2) (.int .i8 t479)) (fun _ hk => hk.2) (.int .i8 t480)) (fun _ hk => hk.2) (.slice Ao24 t481.length co24)) (fun _ h_ => h_.1)))); (case side2 => exact (Kd.R_reads' HO483.out).2.1); rintro e w25 ⟨v486, rfl, ho0, hb⟩; refine ⟨_, rfl, ?_⟩; have n0_ := am_ (Kd.R_below (by (with_reducible repeat (first | apply Kd.R_alloc | apply Kd.R_drewN | apply Kd.R_drew)); exact (Kd.R_mono (Kd.R_far (p := ⟨gb484, 2, none⟩) (Kd.R_far (p := ⟨gb484, 1, none⟩) (Kd.R_far (p := ⟨gb484, 0, none⟩) (Kd.R_types HO474.out BK484.out (by decide)) (fun _ hk => hk.2) (.int .i8 t479)) (fun _ hk => hk.2) (.int .i8 t480)) (fun _ hk => hk.2) (.slice Ao24 t481.length co24)) (fun _ h_ => h_.1))) hb); have n1_ := am_ (Kd.R_elder' (by (with_reducible repeat (first | apply Kd.R_alloc | apply Kd.R_drewN | apply Kd.R_drew)); exact (Kd.R_mono (Kd.R_far (p := ⟨gb484, 2, none⟩) (Kd.R_far (p := ⟨gb484, 1, none⟩) (Kd.R_far (p := ⟨gb484, 0, none⟩) (Kd.R_types HO477.out BK484.out (by decide)) (fun _ hk => hk.2) (.int .i8 t479)) (fun _ hk => hk.2) (.int .i8 t480)) (fun _ hk => hk.2) (.slice Ao24 t481.length co24)) (fun _ h_ => h_.1))) (Kd.R_base ho0) hb); have n2_ := am_ (Kd.R_below (by (with_reducible repeat (first | apply Kd.R_alloc | apply Kd.R_drewN | apply Kd.R_drew)); exact (Kd.R_mono (Kd.R_far (p := ⟨gb484, 2, none⟩) (Kd.R_far (p := ⟨gb484, 1, none⟩) (Kd.R_far (p := ⟨gb484, 0, none⟩) (Kd.R_types HO483.out BK484.out (by decide)) (fun _ hk => hk.2) (.int .i8 t479)) (fun _ hk => hk.2) (.int .i8 t480)) (fun _ hk => hk.2) (.slice Ao24 t481.length co24)) (fun _ h_ => h_.1))) hb); have n3_ := am_ (Kd.R_lower (Kd.R_new' ho0 (Kd.R_lt (by (with_reducible repeat (first | apply Kd.R_alloc | apply Kd.R_drewN | apply Kd.R_drew)); exact (Kd.R_mono (Kd.R_far (p := ⟨gb484, 2, none⟩) (Kd.R_far (p := ⟨gb484, 1, none⟩) (Kd.R_far (p := ⟨gb484, 0, none⟩) (Kd.R_types HO477.out BK484.out (by decide)) (fun _ hk => hk.2) (.int .i8 t479)) (fun _ hk => hk.2) (.int .i8 t480)) (fun _ hk => hk.2) (.slice Ao24 t481.length co24)) (fun _ h_ => h_.1))))) (below_size (by repeat (first | (with_reducible first | exact HB.out | apply bA_ | apply bN_ | apply bD_ | refine bS_ ?_ GE468.out | refine bS_ ?_ GE484.out) | exact HB.out)))); have n4_ := am_ (blk_below (g := gb468) (o := .cells #[.int .i8 a0_0, .int .i8 a0_1, .slice A0_2 l0_2.length c0_2] 25 (0, 0)) (by (with_reducible repeat (first | refine kN_ ?_ _ | refine kD_ ?_ | refine kA_ ?_ _)); refine blk_far ?_ NB468_484.out _; (with_reducible repeat (first | refine kN_ ?_ _ | refine kD_ ?_ | refine kA_ ?_ _)); refine blk_far ?_ NB468_484.out _; (with_reducible repeat (first | refine kN_ ?_ _ | refine kD_ ?_ | refine kA_ ?_ _)); refine blk_far ?_ NB468_484.out _; (with_reducible repeat (first | refine kN_ ?_ _ | refine kD_ ?_ | refine kA_ ?_ _)); exact BK468.out) hb); have n5_ := am_ (blk_below (g := gb484) (o := .cells #[.int .i8 t479, .int .i8 t480, .slice Ao24 t481.length co24] 30 (0, 0)) (by (with_reducible repeat (first | refine kN_ ?_ _ | refine kD_ ?_ | refine kA_ ?_ _)); refine blk_put (cs := #[.int .i8 t479, .int .i8 t480, .slice none 0 0]) ?_ 2 _ rfl; (with_reducible repeat (first | refine kN_ ?_ _ | refine kD_ ?_ | refine kA_ ?_ _)); refine blk_put (cs := #[.int .i8 t479, .int .i8 0, .slice none 0 0]) ?_ 1 _ rfl; (with_reducible repeat (first | refine kN_ ?_ _ | refine kD_ ?_ | refine kA_ ?_ _)); refine blk_put (cs := #[.int .i8 0, .int .i8 0, .slice none 0 0]) ?_ 0 _ rfl; (with_reducible repeat (first | refine kN_ ?_ _ | refine kD_ ?_ | refine kA_ ?_ _)); exact BK484.out) hb); have n6_ := am_ (bT_ (by repeat (first | (with_reducible first | exact HB.out | apply bA_ | apply bN_ | apply bD_ | refine bS_ ?_ GE468.out | refine bS_ ?_ GE484.out) | exact HB.out)) hb); clear HO474; clear HO477; clear HO483; clear BK468; clear BK484; clear HB; have HO474 := n0_; have HO477 := n1_; have HO483 := n2_; have HO487 := n3_; have BK468 := n4_; have BK484 := n5_; have HB := n6_; clear n0_ n1_ n2_ n3_ n4_ n5_ n6_; (try clear hb); (try clear hb2); (try clear hk); (try clear hi); (try clear ho0)))
  (try simp only [Act.put, List.setIfInBounds_toArray, List.set_cons_zero, List.set_cons_succ])
  go_cut [40] (fun v40 wc => ∃ (kq : Nat) (x40_10 : Bool), v40 = .bool x40_10 ∧ Aside0 (laws_FnExactOpenCells.j0 kq t475 t478 t485 t488 x40_10 a0_0 a0_1 l0_2 t479 t480 t481 = some true) ∧ Aside0 (kq ≤ k) ∧ Aside0 (Kd.R k46 46 wc w.heap.size (fun k_ => some k_ ≠ (v486 : Value).ownBlock) v476 t475) ∧ Aside0 (Kd.R k46 46 wc w.heap.size (fun k_ => some k_ ≠ (v476 : Value).ownBlock) v486 t485) ∧ Aside0 (Kd.R k38 38 wc w.heap.size (fun _ => True) (.slice Ao24 t481.length co24) t481) ∧ Aside0 (wc.heap[gb468]? = some (.cells #[.int .i8 a0_0, .int .i8 a0_1, (.slice A0_2 l0_2.length c0_2)] 25 (0, 0))) ∧ Aside0 (wc.heap[gb484]? = some (.cells #[.int .i8 t479, .int .i8 t480, (.slice Ao24 t481.length co24)] 30 (0, 0))) ∧ Aside0 (Below w.heap.size w wc))
  case first =>
   have H := HC11.out; clear HC11; replace H := Option.bind_eq_some_iff.mp H; obtain ⟨t489, A260, H⟩ := H; replace H : (if t489 = true then (laws_FnExactOpenCells.j0 k t475 t478 t485 t488 (t488 != t478) a0_0 a0_1 l0_2 t479 t480 t481) else (laws_FnExactOpenCells.j0 k t475 t478 t485 t488 true a0_0 a0_1 l0_2 t479 t480 t481)) = some true := H; have A26 := am_ A260; clear A260
   by_cases c27 : t489 = true
   ·
    subst c27; have H1 : (laws_FnExactOpenCells.j0 k t475 t478 t485 t488 (t488 != t478) a0_0 a0_1 l0_2 t479 t480 t481) = some true := by rw [if_pos rfl] at H; exact H
    clear H; have H := H1; clear H1; have H' := am_ H; clear H; obtain ⟨Ao28, co28, eo28⟩ := Kd.R_slice HO487.out; subst eo28; obtain ⟨Ao29, co29, eo29⟩ := Kd.R_slice HO477.out; subst eo29
    go_wp2_with (first | ((with_reducible refine gate_callee (f := 26) rfl ?_); refine goesL_ (some 34) rfl rfl Try.func26 (by kernel_rfl) rfl #[.slice Ao28 t485.length co28, .slice Ao29 t475.length co29] rfl (by (try simp only [List.map_toArray, List.map_cons, List.map_nil]); first | done | rfl | (simp only [List.length_drop, List.length_take]; rfl)) ?_; (with_reducible refine (laws_eqCellS.calls k _ _ t485 _ _ t475 true _ ?side1 ?side2 ?side3 ?side4 A26.out).mono ?_); (case side1 => repeat (first | exact (Kd.R_reads' HO487.out).2.2 | (with_reducible refine Kd.C_alloc ?_ _) | (with_reducible refine Kd.C_drewN ?_ _) | (with_reducible refine Kd.C_drew ?_))); (case side2 => exact (Kd.R_reads' HO487.out).2.1); (case side3 => repeat (first | exact (Kd.R_reads' HO477.out).2.2 | (with_reducible refine Kd.C_alloc ?_ _) | (with_reducible refine Kd.C_drewN ?_ _) | (with_reducible refine Kd.C_drew ?_))); (case side4 => exact (Kd.R_reads' HO477.out).2.1); rintro e w30 ⟨rfl, hb⟩; refine ⟨_, rfl, ?_⟩; have n0_ := am_ (Kd.R_below (by (with_reducible repeat (first | apply Kd.R_alloc | apply Kd.R_drewN | apply Kd.R_drew)); exact HO474.out) hb); have n1_ := am_ (Kd.R_below (by (with_reducible repeat (first | apply Kd.R_alloc | apply Kd.R_drewN | apply Kd.R_drew)); exact HO477.out) hb); have n2_ := am_ (Kd.R_below (by (with_reducible repeat (first | apply Kd.R_alloc | apply Kd.R_drewN | apply Kd.R_drew)); exact HO483.out) hb); have n3_ := am_ (Kd.R_below (by (with_reducible repeat (first | apply Kd.R_alloc | apply Kd.R_drewN | apply Kd.R_drew)); exact HO487.out) hb); have n4_ := am_ (blk_below (g := gb468) (o := .cells #[.int .i8 a0_0, .int .i8 a0_1, .slice A0_2 l0_2.length c0_2] 25 (0, 0)) (by (with_reducible repeat (first | refine kN_ ?_ _ | refine kD_ ?_ | refine kA_ ?_ _)); exact BK468.out) hb); have n5_ := am_ (blk_below (g := gb484) (o := .cells #[.int .i8 t479, .int .i8 t480, .slice Ao24 t481.length co24] 30 (0, 0)) (by (with_reducible repeat (first | refine kN_ ?_ _ | refine kD_ ?_ | refine kA_ ?_ _)); exact BK484.out) hb); have n6_ := am_ (bT_ (by repeat (first | (with_reducible first | exact HB.out | apply bA_ | apply bN_ | apply bD_ | refine bS_ ?_ GE468.out | refine bS_ ?_ GE484.out) | exact HB.out)) hb); clear HO474; clear HO477; clear HO483; clear HO487; clear BK468; clear BK484; clear HB; have HO474 := n0_; have HO477 := n1_; have HO483 := n2_; have HO487 := n3_; have BK468 := n4_; have BK484 := n5_; have HB := n6_; clear n0_ n1_ n2_ n3_ n4_ n5_ n6_; (try clear hb); (try clear hb2); (try clear hk); (try clear hi)))
    go_meet
    case rel => exact ⟨_, ((t488 != t478)), (by first | rfl | (simp; done) | (simp [*]; done)), H', ⟨by first | omega | exact Nat.le_refl _⟩, ⟨by (with_reducible repeat (first | apply Kd.R_alloc | apply Kd.R_drewN | apply Kd.R_drew)); exact Kd.R_mono HO477.out (fun _ hk => hk.2)⟩, ⟨by (with_reducible repeat (first | apply Kd.R_alloc | apply Kd.R_drewN | apply Kd.R_drew)); exact Kd.R_mono HO487.out (fun _ hk => hk.2)⟩, ⟨by (with_reducible repeat (first | apply Kd.R_alloc | apply Kd.R_drewN | apply Kd.R_drew)); exact Kd.R_mono HO483.out (fun _ hk => trivial)⟩, ⟨by (with_reducible repeat (first | refine kN_ ?_ _ | refine kD_ ?_ | refine kA_ ?_ _)); exact BK468.out⟩, ⟨by (with_reducible repeat (first | refine kN_ ?_ _ | refine kD_ ?_ | refine kA_ ?_ _)); exact BK484.out⟩, ⟨by repeat (first | (with_reducible first | exact HB.out | apply bA_ | apply bN_ | apply bD_ | refine bS_ ?_ GE468.out | refine bS_ ?_ GE484.out) | exact HB.out)⟩⟩
   ·
    replace c27 := Bool.eq_false_iff.mpr c27; subst c27; have H1 : (laws_FnExactOpenCells.j0 k t475 t478 t485 t488 true a0_0 a0_1 l0_2 t479 t480 t481) = some true := by rw [if_neg (show ¬ (false = true) by decide)] at H; exact H
    clear H; have H := H1; clear H1; have H' := am_ H; clear H; obtain ⟨Ao31, co31, eo31⟩ := Kd.R_slice HO487.out; subst eo31; obtain ⟨Ao32, co32, eo32⟩ := Kd.R_slice HO477.out; subst eo32
    go_wp2_with (first | ((with_reducible refine gate_callee (f := 26) rfl ?_); refine goesL_ (some 34) rfl rfl Try.func26 (by kernel_rfl) rfl #[.slice Ao31 t485.length co31, .slice Ao32 t475.length co32] rfl (by (try simp only [List.map_toArray, List.map_cons, List.map_nil]); first | done | rfl | (simp only [List.length_drop, List.length_take]; rfl)) ?_; (with_reducible refine (laws_eqCellS.calls k _ _ t485 _ _ t475 false _ ?side1 ?side2 ?side3 ?side4 A26.out).mono ?_); (case side1 => repeat (first | exact (Kd.R_reads' HO487.out).2.2 | (with_reducible refine Kd.C_alloc ?_ _) | (with_reducible refine Kd.C_drewN ?_ _) | (with_reducible refine Kd.C_drew ?_))); (case side2 => exact (Kd.R_reads' HO487.out).2.1); (case side3 => repeat (first | exact (Kd.R_reads' HO477.out).2.2 | (with_reducible refine Kd.C_alloc ?_ _) | (with_reducible refine Kd.C_drewN ?_ _) | (with_reducible refine Kd.C_drew ?_))); (case side4 => exact (Kd.R_reads' HO477.out).2.1); rintro e w33 ⟨rfl, hb⟩; refine ⟨_, rfl, ?_⟩; have n0_ := am_ (Kd.R_below (by (with_reducible repeat (first | apply Kd.R_alloc | apply Kd.R_drewN | apply Kd.R_drew)); exact HO474.out) hb); have n1_ := am_ (Kd.R_below (by (with_reducible repeat (first | apply Kd.R_alloc | apply Kd.R_drewN | apply Kd.R_drew)); exact HO477.out) hb); have n2_ := am_ (Kd.R_below (by (with_reducible repeat (first | apply Kd.R_alloc | apply Kd.R_drewN | apply Kd.R_drew)); exact HO483.out) hb); have n3_ := am_ (Kd.R_below (by (with_reducible repeat (first | apply Kd.R_alloc | apply Kd.R_drewN | apply Kd.R_drew)); exact HO487.out) hb); have n4_ := am_ (blk_below (g := gb468) (o := .cells #[.int .i8 a0_0, .int .i8 a0_1, .slice A0_2 l0_2.length c0_2] 25 (0, 0)) (by (with_reducible repeat (first | refine kN_ ?_ _ | refine kD_ ?_ | refine kA_ ?_ _)); exact BK468.out) hb); have n5_ := am_ (blk_below (g := gb484) (o := .cells #[.int .i8 t479, .int .i8 t480, .slice Ao24 t481.length co24] 30 (0, 0)) (by (with_reducible repeat (first | refine kN_ ?_ _ | refine kD_ ?_ | refine kA_ ?_ _)); exact BK484.out) hb); have n6_ := am_ (bT_ (by repeat (first | (with_reducible first | exact HB.out | apply bA_ | apply bN_ | apply bD_ | refine bS_ ?_ GE468.out | refine bS_ ?_ GE484.out) | exact HB.out)) hb); clear HO474; clear HO477; clear HO483; clear HO487; clear BK468; clear BK484; clear HB; have HO474 := n0_; have HO477 := n1_; have HO483 := n2_; have HO487 := n3_; have BK468 := n4_; have BK484 := n5_; have HB := n6_; clear n0_ n1_ n2_ n3_ n4_ n5_ n6_; (try clear hb); (try clear hb2); (try clear hk); (try clear hi)))
    go_meet
    case rel => exact ⟨_, (true), (by first | rfl | (simp; done) | (simp [*]; done)), H', ⟨by first | omega | exact Nat.le_refl _⟩, ⟨by (with_reducible repeat (first | apply Kd.R_alloc | apply Kd.R_drewN | apply Kd.R_drew)); exact Kd.R_mono HO477.out (fun _ hk => hk.2)⟩, ⟨by (with_reducible repeat (first | apply Kd.R_alloc | apply Kd.R_drewN | apply Kd.R_drew)); exact Kd.R_mono HO487.out (fun _ hk => hk.2)⟩, ⟨by (with_reducible repeat (first | apply Kd.R_alloc | apply Kd.R_drewN | apply Kd.R_drew)); exact Kd.R_mono HO483.out (fun _ hk => trivial)⟩, ⟨by (with_reducible repeat (first | refine kN_ ?_ _ | refine kD_ ?_ | refine kA_ ?_ _)); exact BK468.out⟩, ⟨by (with_reducible repeat (first | refine kN_ ?_ _ | refine kD_ ?_ | refine kA_ ?_ _)); exact BK484.out⟩, ⟨by repeat (first | (with_reducible first | exact HB.out | apply bA_ | apply bN_ | apply bD_ | refine bS_ ?_ GE468.out | refine bS_ ?_ GE484.out) | exact HB.out)⟩⟩
  case rest =>
   clear HC11
   try clear c1
   try clear c2
   try clear p2
   try clear c3
   try clear c3b0
   try clear c7
   try clear c11
   try clear c13
   try clear c22
   try clear c24
   try clear c25
   try clear c26
   try clear c27
   try clear hcz13_0
   try clear hcz13_1
   try clear hcz13_2
   try clear hcz15_0
   try clear hcz15_1
   try clear hcz15_2
   try clear hcz19_0
   try clear hcz19_1
   try clear hcz19_2
   try clear hcz23_0
   try clear hcz23_1
   try clear hcz23_2
   try clear hcz5_0
   try clear hcz5_1
   try clear hcz5_2
   try clear hfz13_0
   try clear hfz13_1
   try clear hfz13_2
   try clear hfz15_0
   try clear hfz15_1
   try clear hfz15_2
   try clear hfz19_0
   try clear hfz19_1
   try clear hfz19_2
   try clear hfz23_0
   try clear hfz23_1
   try clear hfz23_2
   try clear hfz5_0
   try clear hfz5_1
   try clear hfz5_2
   obtain ⟨kq, x40_10, rfl, HA, HJ10, HO_4, HO_7, HO_485002, BK468, BK484, HB⟩ := hcut
   cases kq with
   | zero => exact absurd HA.out (by simp [laws_FnExactOpenCells.j0])
   | succ kj10 =>
    have H := HA.out; clear HA; simp only [laws_FnExactOpenCells.j0] at H
    by_cases c34 : x40_10 = true
    ·
     subst c34; have H1 : (some false) = some true := by rw [if_pos rfl] at H; exact H
     clear H; have H := H1; clear H1; exact absurd (Option.some.inj H) (by decide)
    ·
     replace c34 := Bool.eq_false_iff.mpr c34; subst c34; have H1 : ((laws_toSquare.f kj10 a0_0 a0_1 l0_2).bind fun bt490 => ((laws_eqSquare.f kj10 t479 t480 t481 bt490.1 bt490.2.1 bt490.2.2).bind fun t495 => (if t495 = true then ((laws_markSquare.f kj10 t479 t480 t481 1).bind fun bt496 => (if bt496.1 < 0 then (laws_FnExactOpenCells.j1 kj10 t475 t478 t485 true a0_0 a0_1 l0_2) else ((laws_eqCellS.f kj10 t485 t475).bind fun t498 => (if t498 = true then (laws_FnExactOpenCells.j1 kj10 t475 t478 t485 (t488 != t478) a0_0 a0_1 l0_2) else (laws_FnExactOpenCells.j1 kj10 t475 t478 t485 true a0_0 a0_1 l0_2))))) else (some false)))) = some true := by rw [if_neg (show ¬ (false = true) by decide)] at H; exact H
     clear H; have H := H1; clear H1; replace H := Option.bind_eq_some_iff.mp H; obtain ⟨⟨t490, t491, t492⟩, A350, H⟩ := H; replace H : ((laws_eqSquare.f kj10 t479 t480 t481 t490 t491 t492).bind fun t495 => (if t495 = true then ((laws_markSquare.f kj10 t479 t480 t481 1).bind fun bt496 => (if bt496.1 < 0 then (laws_FnExactOpenCells.j1 kj10 t475 t478 t485 true a0_0 a0_1 l0_2) else ((laws_eqCellS.f kj10 t485 t475).bind fun t498 => (if t498 = true then (laws_FnExactOpenCells.j1 kj10 t475 t478 t485 (t488 != t478) a0_0 a0_1 l0_2) else (laws_FnExactOpenCells.j1 kj10 t475 t478 t485 true a0_0 a0_1 l0_2))))) else (some false))) = some true := H; have A35 := am_ A350; clear A350; replace H := Option.bind_eq_some_iff.mp H; obtain ⟨t495, A360, H⟩ := H; replace H : (if t495 = true then ((laws_markSquare.f kj10 t479 t480 t481 1).bind fun bt496 => (if bt496.1 < 0 then (laws_FnExactOpenCells.j1 kj10 t475 t478 t485 true a0_0 a0_1 l0_2) else ((laws_eqCellS.f kj10 t485 t475).bind fun t498 => (if t498 = true then (laws_FnExactOpenCells.j1 kj10 t475 t478 t485 (t488 != t478) a0_0 a0_1 l0_2) else (laws_FnExactOpenCells.j1 kj10 t475 t478 t485 true a0_0 a0_1 l0_2))))) else (some false)) = some true := H; have A36 := am_ A360; clear A360
     by_cases c37 : t495 = true
     ·
      subst c37; have H1 : ((laws_markSquare.f kj10 t479 t480 t481 1).bind fun bt496 => (if bt496.1 < 0 then (laws_FnExactOpenCells.j1 kj10 t475 t478 t485 true a0_0 a0_1 l0_2) else ((laws_eqCellS.f kj10 t485 t475).bind fun t498 => (if t498 = true then (laws_FnExactOpenCells.j1 kj10 t475 t478 t485 (t488 != t478) a0_0 a0_1 l0_2) else (laws_FnExactOpenCells.j1 kj10 t475 t478 t485 true a0_0 a0_1 l0_2))))) = some true := by rw [if_pos rfl] at H; exact H
      clear H; have H := H1; clear H1; replace H := Option.bind_eq_some_iff.mp H; obtain ⟨⟨t496, t497⟩, A380, H⟩ := H; replace H : (if t496 < 0 then (laws_FnExactOpenCells.j1 kj10 t475 t478 t485 true a0_0 a0_1 l0_2) else ((laws_eqCellS.f kj10 t485 t475).bind fun t498 => (if t498 = true then (laws_FnExactOpenCells.j1 kj10 t475 t478 t485 (t488 != t478) a0_0 a0_1 l0_2) else (laws_FnExactOpenCells.j1 kj10 t475 t478 t485 true a0_0 a0_1 l0_2)))) = some true := H; have A38 := am_ A380; clear A380; have HC39 := am_ H; clear H
      try go_wp2
      have n0_ := am_ (Kd.R_drew HO_4.out); have n1_ := am_ (Kd.R_drew HO_7.out); have n2_ := am_ (Kd.R_drew HO_485002.out); have n3_ := am_ (kD_ BK468.out); have n4_ := am_ (kD_ BK484.out); have n5_ := am_ (bD_ HB.out); clear HO_4; clear HO_7; clear HO_485002; clear BK468; clear BK484; clear HB; have HO_4 := n0_; have HO_7 := n1_; have HO_485002 := n2_; have BK468 := n3_; have BK484 := n4_; have HB := n5_; clear n0_ n1_ n2_ n3_ n4_ n5_; refine start_ (n := 5) (S := fun w' => w'.cell? ⟨gb484, 0, none⟩ = some (.int .i8 t479) ∧ w'.cell? ⟨gb484, 1, none⟩ = some (.int .i8 t480) ∧ w'.cell? ⟨gb484, 2, none⟩ = some (.slice Ao24 t481.length co24) ∧ w'.cell? ⟨gb468, 0, none⟩ = some (.int .i8 a0_0) ∧ w'.cell? ⟨gb468, 1, none⟩ = some (.int .i8 a0_1) ∧ w'.cell? ⟨gb468, 2, none⟩ = some (.slice A0_2 l0_2.length c0_2)) (ds := []) (mB_ 5 0) (by kernel_rfl) rfl rfl ⟨(kC_ BK484.out 0).trans rfl, (kC_ BK484.out 1).trans rfl, (kC_ BK484.out 2).trans rfl, (kC_ BK468.out 0).trans rfl, (kC_ BK468.out 1).trans rfl, (kC_ BK468.out 2).trans rfl⟩ (fun hHeld => ?_); generalize wc.drew = w40 at HO_4 HO_7 HO_485002 BK468 BK484 HB hHeld ⊢; refine take_ (i := 0) (N := some 41) (v := ?_) (a' := ?_) (mB_ 5 1) rfl rfl (by kernel_rfl) (fun _ _ _ h => h) (Or.inl ⟨by rfl, ?_⟩) hHeld ?_ ?_; rotate_left
      ·
       rintro w' ⟨s0, s1, s2, s3, s4, s5⟩
       go_simp
       with_reducible rfl
      rotate_left
      ·
       simp only [Act.put, List.setIfInBounds_toArray, List.set_cons_zero, List.set_cons_succ, i64_w, i32_w]
       rfl
      refine take_ (i := 1) (N := some 42) (v := ?_) (a' := ?_) (mB_ 5 3) rfl rfl (by kernel_rfl) (fun _ _ _ h => h) (Or.inl ⟨by rfl, ?_⟩) hHeld ?_ ?_; rotate_left
      ·
       rintro w' ⟨s0, s1, s2, s3, s4, s5⟩
       go_simp
       with_reducible rfl
      rotate_left
      ·
       simp only [Act.put, List.setIfInBounds_toArray, List.set_cons_zero, List.set_cons_succ, i64_w, i32_w]
       rfl
      refine one_ (i := 2) (N := some 43) (mB_ 5 7) rfl rfl (by kernel_rfl) (by decide) (fun K hK => ?_); refine goes_ Try.func13 (by kernel_rfl) rfl #[.agg #[.int .i8 a0_0, .int .i8 a0_1, .slice A0_2 l0_2.length c0_2]] (by rfl) rfl rfl (by (try simp only [List.map_toArray, List.map_cons, List.map_nil]); first | done | rfl | (simp only [List.length_drop, List.length_take]; rfl)) ?_
      with_reducible refine (laws_toSquare.calls kj10 a0_0 a0_1 _ _ l0_2 t490 t491 t492 _ ?side1 ?side2 A35.out).mono ?_
      (case side1 => repeat (first | exact (Kd.C_below HR0_2.out HB.out) | (with_reducible refine Kd.C_alloc ?_ _) | (with_reducible refine Kd.C_drewN ?_ _) | (with_reducible refine Kd.C_drew ?_)))
      (case side2 => exact HC0_2.out)
      rintro e w41 ⟨v493, rfl, ho0, hb⟩; refine ⟨_, rfl, ?_⟩; have n0_ := am_ (Kd.R_below (by (with_reducible repeat (first | apply Kd.R_alloc | apply Kd.R_drewN | apply Kd.R_drew)); exact HO_4.out) hb); have n1_ := am_ (Kd.R_below (by (with_reducible repeat (first | apply Kd.R_alloc | apply Kd.R_drewN | apply Kd.R_drew)); exact HO_7.out) hb); have n2_ := am_ (Kd.R_elder' (by (with_reducible repeat (first | apply Kd.R_alloc | apply Kd.R_drewN | apply Kd.R_drew)); exact HO_485002.out) (Kd.R_base ho0) hb); have n3_ := am_ (Kd.R_lower (Kd.R_new' ho0 (Kd.R_lt (by (with_reducible repeat (first | apply Kd.R_alloc | apply Kd.R_drewN | apply Kd.R_drew)); exact HO_485002.out))) (below_size (by repeat (first | (with_reducible first | exact HB.out | apply bA_ | apply bN_ | apply bD_ | refine bS_ ?_ GE468.out | refine bS_ ?_ GE484.out) | exact HB.out)))); have n4_ := am_ (blk_below (g := gb468) (o := .cells #[.int .i8 a0_0, .int .i8 a0_1, .slice A0_2 l0_2.length c0_2] 25 (0, 0)) (by (with_reducible repeat (first | refine kN_ ?_ _ | refine kD_ ?_ | refine kA_ ?_ _)); exact BK468.out) hb); have n5_ := am_ (blk_below (g := gb484) (o := .cells #[.int .i8 t479, .int .i8 t480, .slice Ao24 t481.length co24] 30 (0, 0)) (by (with_reducible repeat (first | refine kN_ ?_ _ | refine kD_ ?_ | refine kA_ ?_ _)); exact BK484.out) hb); have n6_ := am_ (bT_ (by repeat (first | (with_reducible first | exact HB.out | apply bA_ | apply bN_ | apply bD_ | refine bS_ ?_ GE468.out | refine bS_ ?_ GE484.out) | exact HB.out)) hb); clear HO_4; clear HO_7; clear HO_485002; clear BK468; clear BK484; clear HB; have HO_4 := n0_; have HO_7 := n1_; have HO_485002 := n2_; have HO494 := n3_; have BK468 := n4_; have BK484 := n5_; have HB := n6_; clear n0_ n1_ n2_ n3_ n4_ n5_ n6_
      (try clear hb)
      (try clear hb2)
      (try clear hk)
      (try clear hi)
      (try clear ho0)
      obtain ⟨Ao42, co42, eo42⟩ := Kd.R_slice HO494.out
      (first | subst eo42 | (injection eo42 with f1_ f2_ f3_; have f4_ := f1_.symm; have f5_ := f3_.symm; clear f1_ f2_ f3_; subst f4_; subst f5_))
      refine hK.out _ _ ⟨(kC_ BK484.out 0).trans rfl, (kC_ BK484.out 1).trans rfl, (kC_ BK484.out 2).trans rfl, (kC_ BK468.out 0).trans rfl, (kC_ BK468.out 1).trans rfl, (kC_ BK468.out 2).trans rfl⟩ (fun hHeld => ?_); clear hK K; refine norm_ (a' := ?_) ?_ ?_; rotate_left
      ·
       show Act.put _ (some 43) _ = _
       simp only [Act.put, List.setIfInBounds_toArray, List.set_cons_zero, List.set_cons_succ, i64_w, i32_w]
       rfl
      refine one_ (i := 3) (N := some 44) (mB_ 5 15) rfl rfl (by kernel_rfl) (by decide) (fun K hK => ?_); refine goes_ Try.func15 (by kernel_rfl) rfl #[.agg #[.int .i8 t479, .int .i8 t480, .slice Ao24 t481.length co24], .agg #[.int .i8 t490, .int .i8 t491, .slice Ao42 t492.length co42]] (by rfl) rfl rfl (by (try simp only [List.map_toArray, List.map_cons, List.map_nil]); first | done | rfl | (simp only [List.length_drop, List.length_take]; rfl)) ?_
      with_reducible refine (laws_eqSquare.calls kj10 t479 t480 _ _ t481 t490 t491 _ _ t492 true _ ?side1 ?side2 ?side3 ?side4 A36.out).mono ?_
      (case side1 => repeat (first | exact (Kd.R_reads' HO_485002.out).2.2 | (with_reducible refine Kd.C_alloc ?_ _) | (with_reducible refine Kd.C_drewN ?_ _) | (with_reducible refine Kd.C_drew ?_)))
      (case side2 => exact (Kd.R_reads' HO_485002.out).2.1)
      (case side3 => repeat (first | exact (Kd.R_reads' HO494.out).2.2 | (with_reducible refine Kd.C_alloc ?_ _) | (with_reducible refine Kd.C_drewN ?_ _) | (with_reducible refine Kd.C_drew ?_)))
      (case side4 => exact (Kd.R_reads' HO494.out).2.1)
      rintro e w43 ⟨rfl, hb⟩; refine ⟨_, rfl, ?_⟩; have n0_ := am_ (Kd.R_below (by (with_reducible repeat (first | apply Kd.R_alloc | apply Kd.R_drewN | apply Kd.R_drew)); exact HO_4.out) hb); have n1_ := am_ (Kd.R_below (by (with_reducible repeat (first | apply Kd.R_alloc | apply Kd.R_drewN | apply Kd.R_drew)); exact HO_7.out) hb); have n2_ := am_ (Kd.R_below (by (with_reducible repeat (first | apply Kd.R_alloc | apply Kd.R_drewN | apply Kd.R_drew)); exact HO_485002.out) hb); have n3_ := am_ (Kd.R_below (by (with_reducible repeat (first | apply Kd.R_alloc | apply Kd.R_drewN | apply Kd.R_drew)); exact HO494.out) hb); have n4_ := am_ (blk_below (g := gb468) (o := .cells #[.int .i8 a0_0, .int .i8 a0_1, .slice A0_2 l0_2.length c0_2] 25 (0, 0)) (by (with_reducible repeat (first | refine kN_ ?_ _ | refine kD_ ?_ | refine kA_ ?_ _)); exact BK468.out) hb); have n5_ := am_ (blk_below (g := gb484) (o := .cells #[.int .i8 t479, .int .i8 t480, .slice Ao24 t481.length co24] 30 (0, 0)) (by (with_reducible repeat (first | refine kN_ ?_ _ | refine kD_ ?_ | refine kA_ ?_ _)); exact BK484.out) hb); have n6_ := am_ (bT_ (by repeat (first | (with_reducible first | exact HB.out | apply bA_ | apply bN_ | apply bD_ | refine bS_ ?_ GE468.out | refine bS_ ?_ GE484.out) | exact HB.out)) hb); clear HO_4; clear HO_7; clear HO_485002; clear HO494; clear BK468; clear BK484; clear HB; have HO_4 := n0_; have HO_7 := n1_; have HO_485002 := n2_; have HO494 := n3_; have BK468 := n4_; have BK484 := n5_; have HB := n6_; clear n0_ n1_ n2_ n3_ n4_ n5_ n6_
      (try clear hb)
      (try clear hb2)
      (try clear hk)
      (try clear hi)
      refine hK.out _ _ ⟨(kC_ BK484.out 0).trans rfl, (kC_ BK484.out 1).trans rfl, (kC_ BK484.out 2).trans rfl, (kC_ BK468.out 0).trans rfl, (kC_ BK468.out 1).trans rfl, (kC_ BK468.out 2).trans rfl⟩ (fun hHeld => ?_); clear hK K; refine norm_ (a' := ?_) ?_ ?_; rotate_left
      ·
       show Act.put _ (some 44) _ = _
       simp only [Act.put, List.setIfInBounds_toArray, List.set_cons_zero, List.set_cons_succ, i64_w, i32_w]
       rfl
      refine pure_ (i := 4) (N := some 45) (v := ?_) (a' := ?_) (mB_ 5 31) rfl rfl (by kernel_rfl) (fun _ _ _ h => h) (Or.inl ⟨by rfl, ?_⟩) ?_ ?_; rotate_left
      ·
       intro w'
       go_simp
       with_reducible rfl
      rotate_left
      ·
       simp only [Act.put, List.setIfInBounds_toArray, List.set_cons_zero, List.set_cons_succ, i64_w, i32_w]
       rfl
      refine done_ (by kernel_rfl) ?_; have hnb44 := NB484_468.out; have hnc44 := NB468_484.out; have hcz45_0 : w43.cell? ⟨gb484, 0, none⟩ = some (.int .i8 t479) := (kC_ BK484.out 0).trans rfl; have hcz45_1 : w43.cell? ⟨gb484, 1, none⟩ = some (.int .i8 t480) := (kC_ BK484.out 1).trans rfl; have hcz45_2 : w43.cell? ⟨gb484, 2, none⟩ = some (.slice Ao24 t481.length co24) := (kC_ BK484.out 2).trans rfl; have hfz45_0 := kF_ BK484.out 0; have hfz45_1 := kF_ BK484.out 1; have hfz45_2 := kF_ BK484.out 2
      go_upto_region 14 with (first | ((with_reducible refine gate_callee (f := 27) rfl ?_); refine goesL_ (some 48) rfl rfl Try.func27 (by kernel_rfl) rfl #[.agg #[.int .i8 t479, .int .i8 t480, .slice Ao24 t481.length co24], .int .i64 1] rfl (by (try simp only [List.map_toArray, List.map_cons, List.map_nil]); first | done | rfl | (simp only [List.length_drop, List.length_take]; rfl)) ?_; (with_reducible refine (laws_markSquare.calls kj10 t479 t480 (fun k_ => some k_ = (.slice Ao24 t481.length co24 : Value).ownBlock) (.slice Ao24 t481.length co24) t481 1 t496 t497 w _ ?side1 ?side2 A38.out).mono ?_); (case side1 => repeat (first | (with_reducible first | exact HB.out | apply bA_ | apply bN_ | apply bD_ | refine bS_ ?_ GE468.out | refine bS_ ?_ GE484.out) | exact HB.out)); (case side2 => exact Kd.R_tight rfl HO_485002.out); rintro e w46 ⟨rfl, hy0, hb, hkp⟩; refine ⟨_, rfl, ?_⟩; have n0_ := am_ (Kd.R_mono (ok' := fun k_ => some k_ ≠ (v486 : Value).ownBlock) (Kd.R_keptB ((Kd.R_apart' HO_4.out (Kd.R_typed HO_485002.out) (by decide))) hkp (fun k_ hk_ hs_ => (hk_.2) hs_)) (fun k_ hk_ => hk_.1.1)); have n1_ := am_ (Kd.R_mono (ok' := fun k_ => some k_ ≠ (v476 : Value).ownBlock) (Kd.R_keptB ((Kd.R_apart' HO_7.out (Kd.R_typed HO_485002.out) (by decide))) hkp (fun k_ hk_ hs_ => (hk_.2) hs_)) (fun k_ hk_ => hk_.1.1)); have n2_ := am_ (Kd.R_reok rfl hy0 (fun k_ e_ => HO_485002.out.1 k_ e_)); have n3_ := am_ (blk_kept (by (with_reducible repeat (first | refine kN_ ?_ _ | refine kD_ ?_ | refine kA_ ?_ _)); exact BK468.out) hkp (fun hs_ => (fun e_ => (Kd.R_ne HO_485002.out BK468.out (by decide)) e_) hs_)); have n4_ := am_ (blk_kept (by (with_reducible repeat (first | refine kN_ ?_ _ | refine kD_ ?_ | refine kA_ ?_ _)); exact BK484.out) hkp (fun hs_ => (fun e_ => (Kd.R_ne HO_485002.out BK484.out (by decide)) e_) hs_)); have n5_ := am_ (Kd.R_mono (ok' := fun k_ => some k_ ≠ (.slice Ao24 t481.length co24 : Value).ownBlock) (Kd.R_keptB (HO494.out) hkp (fun k_ hk_ hs_ => (hk_.2) hs_)) (fun k_ hk_ => hk_.1.2)); have n6_ := am_ (hb); clear HO_4; clear HO_7; clear HO_485002; clear BK468; clear BK484; clear HO494; clear HB; have HO_4 := n0_; have HO_7 := n1_; have HO_485002 := n2_; have BK468 := n3_; have BK484 := n4_; have HO494 := n5_; have HB := n6_; clear n0_ n1_ n2_ n3_ n4_ n5_ n6_; (try clear hb); (try clear hkp); (try clear hy0)))
      (try simp only [Act.put, List.setIfInBounds_toArray, List.set_cons_zero, List.set_cons_succ])
      go_cut [61] (fun v61 wc => ∃ (kq : Nat) (x61_38 : Bool), v61 = .bool x61_38 ∧ Aside0 (laws_FnExactOpenCells.j1 kq t475 t478 t485 x61_38 a0_0 a0_1 l0_2 = some true) ∧ Aside0 (kq ≤ kj10) ∧ Aside0 (Kd.R k46 46 wc w.heap.size (fun k_ => some k_ ≠ (v486 : Value).ownBlock) v476 t475) ∧ Aside0 (Kd.R k46 46 wc w.heap.size (fun k_ => some k_ ≠ (v476 : Value).ownBlock) v486 t485) ∧ Aside0 (Kd.R k38 38 wc w.heap.size (fun _ => True) (.slice Ao24 t481.length co24) t497) ∧ Aside0 (wc.heap[gb468]? = some (.cells #[.int .i8 a0_0, .int .i8 a0_1, (.slice A0_2 l0_2.length c0_2)] 25 (0, 0))) ∧ Aside0 (wc.heap[gb484]? = some (.cells #[.int .i8 t479, .int .i8 t480, (.slice Ao24 t481.length co24)] 30 (0, 0))) ∧ Aside0 (Below w.heap.size w wc))
      case first =>
       have H := HC39.out; clear HC39
       by_cases c47 : t496 < 0
       ·
        rw [if_pos c47] at H; have c47b0 : decide (t496 < 0) = true := decide_eq_true c47; clear c47
        (first | rw [c47b0] | (simp only [i64_w, i32_w]; rw [c47b0]) | skip)
        have H' := am_ H; clear H
        go_wp2
        go_meet
        case rel => exact ⟨_, (true), (by first | rfl | (simp; done) | (simp [*]; done)), H', ⟨by have := HJ10.out; first | omega | exact Nat.le_refl _⟩, ⟨by (with_reducible repeat (first | apply Kd.R_alloc | apply Kd.R_drewN | apply Kd.R_drew)); exact HO_4.out⟩, ⟨by (with_reducible repeat (first | apply Kd.R_alloc | apply Kd.R_drewN | apply Kd.R_drew)); exact HO_7.out⟩, ⟨by (with_reducible repeat (first | apply Kd.R_alloc | apply Kd.R_drewN | apply Kd.R_drew)); exact Kd.R_mono HO_485002.out (fun _ hk => trivial)⟩, ⟨by (with_reducible repeat (first | refine kN_ ?_ _ | refine kD_ ?_ | refine kA_ ?_ _)); exact BK468.out⟩, ⟨by (with_reducible repeat (first | refine kN_ ?_ _ | refine kD_ ?_ | refine kA_ ?_ _)); exact BK484.out⟩, ⟨by repeat (first | (with_reducible first | exact HB.out | apply bA_ | apply bN_ | apply bD_ | refine bS_ ?_ GE468.out | refine bS_ ?_ GE484.out) | exact HB.out)⟩⟩
       ·
        rw [if_neg c47] at H; have c47b0 : decide (t496 < 0) = false := decide_eq_false c47; clear c47
        (first | rw [c47b0] | (simp only [i64_w, i32_w]; rw [c47b0]) | skip)
        replace H := Option.bind_eq_some_iff.mp H; obtain ⟨t498, A480, H⟩ := H; replace H : (if t498 = true then (laws_FnExactOpenCells.j1 kj10 t475 t478 t485 (t488 != t478) a0_0 a0_1 l0_2) else (laws_FnExactOpenCells.j1 kj10 t475 t478 t485 true a0_0 a0_1 l0_2)) = some true := H; have A48 := am_ A480; clear A480
        by_cases c49 : t498 = true
        ·
         subst c49; have H1 : (laws_FnExactOpenCells.j1 kj10 t475 t478 t485 (t488 != t478) a0_0 a0_1 l0_2) = some true := by rw [if_pos rfl] at H; exact H
         clear H; have H := H1; clear H1; have H' := am_ H; clear H; obtain ⟨Ao50, co50, eo50⟩ := Kd.R_slice HO_7.out; subst eo50; obtain ⟨Ao51, co51, eo51⟩ := Kd.R_slice HO_4.out; subst eo51
         go_wp2_with (first | (go_at_call 26; (with_reducible refine (laws_eqCellS.calls kj10 _ _ t485 _ _ t475 true _ ?side1 ?side2 ?side3 ?side4 A48.out).mono ?_); (case side1 => repeat (first | exact (Kd.R_reads' HO_7.out).2.2 | (with_reducible refine Kd.C_alloc ?_ _) | (with_reducible refine Kd.C_drewN ?_ _) | (with_reducible refine Kd.C_drew ?_))); (case side2 => exact (Kd.R_reads' HO_7.out).2.1); (case side3 => repeat (first | exact (Kd.R_reads' HO_4.out).2.2 | (with_reducible refine Kd.C_alloc ?_ _) | (with_reducible refine Kd.C_drewN ?_ _) | (with_reducible refine Kd.C_drew ?_))); (case side4 => exact (Kd.R_reads' HO_4.out).2.1); rintro e w52 ⟨rfl, hb⟩; have n0_ := am_ (Kd.R_below (by (with_reducible repeat (first | apply Kd.R_alloc | apply Kd.R_drewN | apply Kd.R_drew)); exact HO_4.out) hb); have n1_ := am_ (Kd.R_below (by (with_reducible repeat (first | apply Kd.R_alloc | apply Kd.R_drewN | apply Kd.R_drew)); exact HO_7.out) hb); have n2_ := am_ (Kd.R_below (by (with_reducible repeat (first | apply Kd.R_alloc | apply Kd.R_drewN | apply Kd.R_drew)); exact HO_485002.out) hb); have n3_ := am_ (Kd.R_below (by (with_reducible repeat (first | apply Kd.R_alloc | apply Kd.R_drewN | apply Kd.R_drew)); exact HO494.out) hb); have n4_ := am_ (blk_below (g := gb468) (o := .cells #[.int .i8 a0_0, .int .i8 a0_1, .slice A0_2 l0_2.length c0_2] 25 (0, 0)) (by (with_reducible repeat (first | refine kN_ ?_ _ | refine kD_ ?_ | refine kA_ ?_ _)); exact BK468.out) hb); have n5_ := am_ (blk_below (g := gb484) (o := .cells #[.int .i8 t479, .int .i8 t480, .slice Ao24 t481.length co24] 30 (0, 0)) (by (with_reducible repeat (first | refine kN_ ?_ _ | refine kD_ ?_ | refine kA_ ?_ _)); exact BK484.out) hb); have n6_ := am_ (bT_ (by repeat (first | (with_reducible first | exact HB.out | apply bA_ | apply bN_ | apply bD_ | refine bS_ ?_ GE468.out | refine bS_ ?_ GE484.out) | exact HB.out)) hb); clear HO_4; clear HO_7; clear HO_485002; clear HO494; clear BK468; clear BK484; clear HB; have HO_4 := n0_; have HO_7 := n1_; have HO_485002 := n2_; have HO494 := n3_; have BK468 := n4_; have BK484 := n5_; have HB := n6_; clear n0_ n1_ n2_ n3_ n4_ n5_ n6_; (try clear hb); (try clear hb2); (try clear hk); (try clear hi)))
         go_meet
         case rel => exact ⟨_, ((t488 != t478)), (by first | rfl | (simp; done) | (simp [*]; done)), H', ⟨by have := HJ10.out; first | omega | exact Nat.le_refl _⟩, ⟨by (with_reducible repeat (first | apply Kd.R_alloc | apply Kd.R_drewN | apply Kd.R_drew)); exact HO_4.out⟩, ⟨by (with_reducible repeat (first | apply Kd.R_alloc | apply Kd.R_drewN | apply Kd.R_drew)); exact HO_7.out⟩, ⟨by (with_reducible repeat (first | apply Kd.R_alloc | apply Kd.R_drewN | apply Kd.R_drew)); exact Kd.R_mono HO_485002.out (fun _ hk => trivial)⟩, ⟨by (with_reducible repeat (first | refine kN_ ?_ _ | refine kD_ ?_ | refine kA_ ?_ _)); exact BK468.out⟩, ⟨by (with_reducible repeat (first | refine kN_ ?_ _ | refine kD_ ?_ | refine kA_ ?_ _)); exact BK484.out⟩, ⟨by repeat (first | (with_reducible first | exact HB.out | apply bA_ | apply bN_ | apply bD_ | refine bS_ ?_ GE468.out | refine bS_ ?_ GE484.out) | exact HB.out)⟩⟩
        ·
         replace c49 := Bool.eq_false_iff.mpr c49; subst c49; have H1 : (laws_FnExactOpenCells.j1 kj10 t475 t478 t485 true a0_0 a0_1 l0_2) = some true := by rw [if_neg (show ¬ (false = true) by decide)] at H; exact H
         clear H; have H := H1; clear H1; have H' := am_ H; clear H; obtain ⟨Ao53, co53, eo53⟩ := Kd.R_slice HO_7.out; subst eo53; obtain ⟨Ao54, co54, eo54⟩ := Kd.R_slice HO_4.out; subst eo54
         go_wp2_with (first | (go_at_call 26; (with_reducible refine (laws_eqCellS.calls kj10 _ _ t485 _ _ t475 false _ ?side1 ?side2 ?side3 ?side4 A48.out).mono ?_); (case side1 => repeat (first | exact (Kd.R_reads' HO_7.out).2.2 | (with_reducible refine Kd.C_alloc ?_ _) | (with_reducible refine Kd.C_drewN ?_ _) | (with_reducible refine Kd.C_drew ?_))); (case side2 => exact (Kd.R_reads' HO_7.out).2.1); (case side3 => repeat (first | exact (Kd.R_reads' HO_4.out).2.2 | (with_reducible refine Kd.C_alloc ?_ _) | (with_reducible refine Kd.C_drewN ?_ _) | (with_reducible refine Kd.C_drew ?_))); (case side4 => exact (Kd.R_reads' HO_4.out).2.1); rintro e w55 ⟨rfl, hb⟩; have n0_ := am_ (Kd.R_below (by (with_reducible repeat (first | apply Kd.R_alloc | apply Kd.R_drewN | apply Kd.R_drew)); exact HO_4.out) hb); have n1_ := am_ (Kd.R_below (by (with_reducible repeat (first | apply Kd.R_alloc | apply Kd.R_drewN | apply Kd.R_drew)); exact HO_7.out) hb); have n2_ := am_ (Kd.R_below (by (with_reducible repeat (first | apply Kd.R_alloc | apply Kd.R_drewN | apply Kd.R_drew)); exact HO_485002.out) hb); have n3_ := am_ (Kd.R_below (by (with_reducible repeat (first | apply Kd.R_alloc | apply Kd.R_drewN | apply Kd.R_drew)); exact HO494.out) hb); have n4_ := am_ (blk_below (g := gb468) (o := .cells #[.int .i8 a0_0, .int .i8 a0_1, .slice A0_2 l0_2.length c0_2] 25 (0, 0)) (by (with_reducible repeat (first | refine kN_ ?_ _ | refine kD_ ?_ | refine kA_ ?_ _)); exact BK468.out) hb); have n5_ := am_ (blk_below (g := gb484) (o := .cells #[.int .i8 t479, .int .i8 t480, .slice Ao24 t481.length co24] 30 (0, 0)) (by (with_reducible repeat (first | refine kN_ ?_ _ | refine kD_ ?_ | refine kA_ ?_ _)); exact BK484.out) hb); have n6_ := am_ (bT_ (by repeat (first | (with_reducible first | exact HB.out | apply bA_ | apply bN_ | apply bD_ | refine bS_ ?_ GE468.out | refine bS_ ?_ GE484.out) | exact HB.out)) hb); clear HO_4; clear HO_7; clear HO_485002; clear HO494; clear BK468; clear BK484; clear HB; have HO_4 := n0_; have HO_7 := n1_; have HO_485002 := n2_; have HO494 := n3_; have BK468 := n4_; have BK484 := n5_; have HB := n6_; clear n0_ n1_ n2_ n3_ n4_ n5_ n6_; (try clear hb); (try clear hb2); (try clear hk); (try clear hi)))
         go_meet
         case rel => exact ⟨_, (true), (by first | rfl | (simp; done) | (simp [*]; done)), H', ⟨by have := HJ10.out; first | omega | exact Nat.le_refl _⟩, ⟨by (with_reducible repeat (first | apply Kd.R_alloc | apply Kd.R_drewN | apply Kd.R_drew)); exact HO_4.out⟩, ⟨by (with_reducible repeat (first | apply Kd.R_alloc | apply Kd.R_drewN | apply Kd.R_drew)); exact HO_7.out⟩, ⟨by (with_reducible repeat (first | apply Kd.R_alloc | apply Kd.R_drewN | apply Kd.R_drew)); exact Kd.R_mono HO_485002.out (fun _ hk => trivial)⟩, ⟨by (with_reducible repeat (first | refine kN_ ?_ _ | refine kD_ ?_ | refine kA_ ?_ _)); exact BK468.out⟩, ⟨by (with_reducible repeat (first | refine kN_ ?_ _ | refine kD_ ?_ | refine kA_ ?_ _)); exact BK484.out⟩, ⟨by repeat (first | (with_reducible first | exact HB.out | apply bA_ | apply bN_ | apply bD_ | refine bS_ ?_ GE468.out | refine bS_ ?_ GE484.out) | exact HB.out)⟩⟩
      case rest =>
       clear HC39
       try clear c1
       try clear c2
       try clear p2
       try clear c3
       try clear c3b0
       try clear c4
       try clear c7
       try clear c11
       try clear c13
       try clear c15
       try clear c22
       try clear c24
       try clear c25
       try clear c26
       try clear c27
       try clear c34
       try clear c37
       try clear c44
       try clear c47
       try clear c47b0
       try clear c49
       try clear hcz13_0
       try clear hcz13_1
       try clear hcz13_2
       try clear hcz15_0
       try clear hcz15_1
       try clear hcz15_2
       try clear hcz19_0
       try clear hcz19_1
       try clear hcz19_2
       try clear hcz23_0
       try clear hcz23_1
       try clear hcz23_2
       try clear hcz45_0
       try clear hcz45_1
       try clear hcz45_2
       try clear hcz5_0
       try clear hcz5_1
       try clear hcz5_2
       try clear hfz13_0
       try clear hfz13_1
       try clear hfz13_2
       try clear hfz15_0
       try clear hfz15_1
       try clear hfz15_2
       try clear hfz19_0
       try clear hfz19_1
       try clear hfz19_2
       try clear hfz23_0
       try clear hfz23_1
       try clear hfz23_2
       try clear hfz45_0
       try clear hfz45_1
       try clear hfz45_2
       try clear hfz5_0
       try clear hfz5_1
       try clear hfz5_2
       try clear p2
       obtain ⟨kq, x61_38, rfl, HA, HJ38, HO_4, HO_7, HO_485002, BK468, BK484, HB⟩ := hcut; have hl485002_38 := (Kd.R_reads' HO_485002.out).1; rw [hl485002_38] at HO_485002
       (try simp only [hl485002_38])
       (try simp only [hl485002_38] at BK468)
       (try simp only [hl485002_38] at BK484)
       (try simp only [hl485002_38] at HO_4)
       (try simp only [hl485002_38] at HO_7)
       cases kq with
       | zero => exact absurd HA.out (by simp [laws_FnExactOpenCells.j1])
       | succ kj38 =>
        have H := HA.out; clear HA; simp only [laws_FnExactOpenCells.j1] at H
        by_cases c56 : x61_38 = true
        ·
         subst c56; have H1 : (some false) = some true := by rw [if_pos rfl] at H; exact H
         clear H; have H := H1; clear H1; exact absurd (Option.some.inj H) (by decide)
        ·
         replace c56 := Bool.eq_false_iff.mpr c56; subst c56; have H1 : ((laws_markCellS.f kj38 t485 1).bind fun bt499 => ((laws_heldCellS.f kj38 bt499.2 1).bind fun t501 => (if t501 < 0 then (some false) else (if t501 = bt499.1 then ((laws_toSquare.f kj38 a0_0 a0_1 l0_2).bind fun bt502 => ((impl_OpenCells.f kj38 bt502.1 bt502.2.1 bt502.2.2).bind fun bt507 => ((laws_eqCellS.f kj38 bt507.1 t475).bind fun t511 => (if t511 = true then (laws_FnExactOpenCells.j2 kj38 bt499.2 bt499.1 (bt507.2 != t478)) else (laws_FnExactOpenCells.j2 kj38 bt499.2 bt499.1 true))))) else (some false))))) = some true := by rw [if_neg (show ¬ (false = true) by decide)] at H; exact H
         clear H; have H := H1; clear H1; replace H := Option.bind_eq_some_iff.mp H; obtain ⟨⟨t499, t500⟩, A570, H⟩ := H; replace H : ((laws_heldCellS.f kj38 t500 1).bind fun t501 => (if t501 < 0 then (some false) else (if t501 = t499 then ((laws_toSquare.f kj38 a0_0 a0_1 l0_2).bind fun bt502 => ((impl_OpenCells.f kj38 bt502.1 bt502.2.1 bt502.2.2).bind fun bt507 => ((laws_eqCellS.f kj38 bt507.1 t475).bind fun t511 => (if t511 = true then (laws_FnExactOpenCells.j2 kj38 t500 t499 (bt507.2 != t478)) else (laws_FnExactOpenCells.j2 kj38 t500 t499 true))))) else (some false)))) = some true := H; have A57 := am_ A570; clear A570; replace H := Option.bind_eq_some_iff.mp H; obtain ⟨t501, A580, H⟩ := H; replace H : (if t501 < 0 then (some false) else (if t501 = t499 then ((laws_toSquare.f kj38 a0_0 a0_1 l0_2).bind fun bt502 => ((impl_OpenCells.f kj38 bt502.1 bt502.2.1 bt502.2.2).bind fun bt507 => ((laws_eqCellS.f kj38 bt507.1 t475).bind fun t511 => (if t511 = true then (laws_FnExactOpenCells.j2 kj38 t500 t499 (bt507.2 != t478)) else (laws_FnExactOpenCells.j2 kj38 t500 t499 true))))) else (some false))) = some true := H; have A58 := am_ A580; clear A580
         by_cases c59 : t501 < 0
         ·
          rw [if_pos c59] at H; have c59b0 : decide (t501 < 0) = true := decide_eq_true c59; clear c59; exact absurd (Option.some.inj H) (by decide)
         ·
          rw [if_neg c59] at H; have c59b0 : decide (t501 < 0) = false := decide_eq_false c59; clear c59
          by_cases c60 : t501 = t499
          ·
           rw [if_pos c60] at H; have c60b0 : (t501 == t499) = true := beq_iff_eq.mpr c60; have c60b1 : (t501 != t499) = false := bne_eq_false_iff_eq.mpr c60; clear c60; replace H := Option.bind_eq_some_iff.mp H; obtain ⟨⟨t502, t503, t504⟩, A610, H⟩ := H; replace H : ((impl_OpenCells.f kj38 t502 t503 t504).bind fun bt507 => ((laws_eqCellS.f kj38 bt507.1 t475).bind fun t511 => (if t511 = true then (laws_FnExactOpenCells.j2 kj38 t500 t499 (bt507.2 != t478)) else (laws_FnExactOpenCells.j2 kj38 t500 t499 true)))) = some true := H; have A61 := am_ A610; clear A610; replace H := Option.bind_eq_some_iff.mp H; obtain ⟨⟨t507, t510⟩, A620, H⟩ := H; replace H : ((laws_eqCellS.f kj38 t507 t475).bind fun t511 => (if t511 = true then (laws_FnExactOpenCells.j2 kj38 t500 t499 (t510 != t478)) else (laws_FnExactOpenCells.j2 kj38 t500 t499 true))) = some true := H; have A62 := am_ A620; clear A620; have HC63 := am_ H; clear H; obtain ⟨Ao64, co64, eo64⟩ := Kd.R_slice HO_7.out; subst eo64
           go_upto_region 25 with (first | ((with_reducible refine gate_callee (f := 28) rfl ?_); refine goesL_ (some 64) rfl rfl Try.func28 (by kernel_rfl) rfl #[.slice Ao64 t485.length co64, .int .i64 1] rfl (by (try simp only [List.map_toArray, List.map_cons, List.map_nil]); first | done | rfl | (simp only [List.length_drop, List.length_take]; rfl)) ?_; (with_reducible refine (laws_markCellS.calls kj38 (fun k_ => some k_ = (.slice Ao64 t485.length co64 : Value).ownBlock) (.slice Ao64 t485.length co64) t485 1 t499 t500 w _ ?side1 ?side2 A57.out).mono ?_); (case side1 => repeat (first | (with_reducible first | exact HB.out | apply bA_ | apply bN_ | apply bD_ | refine bS_ ?_ GE468.out | refine bS_ ?_ GE484.out) | exact HB.out)); (case side2 => exact Kd.R_tight rfl HO_7.out); rintro e w65 ⟨rfl, hy0, hb, hkp⟩; refine ⟨_, rfl, ?_⟩; have n0_ := am_ (Kd.R_mono (ok' := fun k_ => some k_ ≠ (.slice Ao64 t485.length co64 : Value).ownBlock) (Kd.R_keptB (HO_4.out) hkp (fun k_ hk_ hs_ => (hk_) hs_)) (fun k_ hk_ => hk_.1)); have n1_ := am_ (Kd.R_reok rfl hy0 (fun k_ e_ => HO_7.out.1 k_ e_)); have n2_ := am_ (Kd.R_mono (ok' := fun k_ => True) (Kd.R_keptB ((Kd.R_apart' HO_485002.out (Kd.R_typed HO_7.out) (by decide))) hkp (fun k_ hk_ hs_ => (hk_.2) hs_)) (fun k_ hk_ => trivial)); have n3_ := am_ (blk_kept (by (with_reducible repeat (first | refine kN_ ?_ _ | refine kD_ ?_ | refine kA_ ?_ _)); exact BK468.out) hkp (fun hs_ => (fun e_ => (Kd.R_ne HO_7.out BK468.out (by decide)) e_) hs_)); have n4_ := am_ (blk_kept (by (with_reducible repeat (first | refine kN_ ?_ _ | refine kD_ ?_ | refine kA_ ?_ _)); exact BK484.out) hkp (fun hs_ => (fun e_ => (Kd.R_ne HO_7.out BK484.out (by decide)) e_) hs_)); have n5_ := am_ (hb); clear HO_4; clear HO_7; clear HO_485002; clear BK468; clear BK484; clear HB; have HO_4 := n0_; have HO_7 := n1_; have HO_485002 := n2_; have BK468 := n3_; have BK484 := n4_; have HB := n5_; clear n0_ n1_ n2_ n3_ n4_ n5_; (try clear hb); (try clear hkp); (try clear hy0)) | ((with_reducible refine gate_callee (f := 29) rfl ?_); refine goesL_ (some 67) rfl rfl Try.func29 (by kernel_rfl) rfl #[.slice Ao64 t500.length co64, .int .i64 1] rfl (by (try simp only [List.map_toArray, List.map_cons, List.map_nil]); first | done | (rw [show t500.length = t485.length from (Kd.R_reads' HO_7.out).1.symm] <;> rfl) | rfl | (simp only [List.length_drop, List.length_take]; rfl)) ?_; (with_reducible refine (laws_heldCellS.calls kj38 _ _ t500 1 t501 _ ?side1 ?side2 A58.out).mono ?_); (case side1 => repeat (first | exact (Kd.R_reads' HO_7.out).2.2 | (with_reducible refine Kd.C_alloc ?_ _) | (with_reducible refine Kd.C_drewN ?_ _) | (with_reducible refine Kd.C_drew ?_))); (case side2 => rw [show t500.length = t485.length from (Kd.R_reads' HO_7.out).1.symm]; exact (Kd.R_reads' HO_7.out).2.1); rintro e w' ⟨rfl, ⟨nd, rfl⟩⟩; refine ⟨_, rfl, ?_⟩; have hnb66 := NB468_484.out; have hnc66 := NB484_468.out; have hcz67_0 : w65.cell? ⟨gb468, 0, none⟩ = some (.int .i8 a0_0) := (kC_ BK468.out 0).trans rfl; have hcz67_1 : w65.cell? ⟨gb468, 1, none⟩ = some (.int .i8 a0_1) := (kC_ BK468.out 1).trans rfl; have hcz67_2 : w65.cell? ⟨gb468, 2, none⟩ = some (.slice A0_2 l0_2.length c0_2) := (kC_ BK468.out 2).trans rfl; have hfz67_0 := kF_ BK468.out 0; have hfz67_1 := kF_ BK468.out 1; have hfz67_2 := kF_ BK468.out 2) | ((with_reducible refine gate_callee (f := 13) rfl ?_); refine goesL_ (some 75) rfl rfl Try.func13 (by kernel_rfl) rfl #[.agg #[.int .i8 a0_0, .int .i8 a0_1, .slice A0_2 l0_2.length c0_2]] rfl (by (try simp only [List.map_toArray, List.map_cons, List.map_nil]); first | done | rfl | (simp only [List.length_drop, List.length_take]; rfl)) ?_; (with_reducible refine (laws_toSquare.calls kj38 a0_0 a0_1 _ _ l0_2 t502 t503 t504 _ ?side1 ?side2 A61.out).mono ?_); (case side1 => repeat (first | exact (Kd.C_below HR0_2.out (by repeat (first | (with_reducible first | exact HB.out | apply bA_ | apply bN_ | apply bD_ | refine bS_ ?_ GE468.out | refine bS_ ?_ GE484.out) | exact HB.out))) | (with_reducible refine Kd.C_alloc ?_ _) | (with_reducible refine Kd.C_drewN ?_ _) | (with_reducible refine Kd.C_drew ?_))); (case side2 => exact HC0_2.out); rintro e w68 ⟨v505, rfl, ho0, hb⟩; refine ⟨_, rfl, ?_⟩; have n0_ := am_ (Kd.R_below (by (with_reducible repeat (first | apply Kd.R_alloc | apply Kd.R_drewN | apply Kd.R_drew)); exact HO_4.out) hb); have n1_ := am_ (Kd.R_below (by (with_reducible repeat (first | apply Kd.R_alloc | apply Kd.R_drewN | apply Kd.R_drew)); exact HO_7.out) hb); have n2_ := am_ (Kd.R_elder' (by (with_reducible repeat (first | apply Kd.R_alloc | apply Kd.R_drewN | apply Kd.R_drew)); exact HO_485002.out) (Kd.R_base ho0) hb); have n3_ := am_ (Kd.R_lower (Kd.R_new' ho0 (Kd.R_lt (by (with_reducible repeat (first | apply Kd.R_alloc | apply Kd.R_drewN | apply Kd.R_drew)); exact HO_485002.out))) (below_size (by repeat (first | (with_reducible first | exact HB.out | apply bA_ | apply bN_ | apply bD_ | refine bS_ ?_ GE468.out | refine bS_ ?_ GE484.out) | exact HB.out)))); have n4_ := am_ (blk_below (g := gb468) (o := .cells #[.int .i8 a0_0, .int .i8 a0_1, .slice A0_2 l0_2.length c0_2] 25 (0, 0)) (by (with_reducible repeat (first | refine kN_ ?_ _ | refine kD_ ?_ | refine kA_ ?_ _)); exact BK468.out) hb); have n5_ := am_ (blk_below (g := gb484) (o := .cells #[.int .i8 t479, .int .i8 t480, .slice Ao24 t497.length co24] 30 (0, 0)) (by (with_reducible repeat (first | refine kN_ ?_ _ | refine kD_ ?_ | refine kA_ ?_ _)); exact BK484.out) hb); have n6_ := am_ (bT_ (by repeat (first | (with_reducible first | exact HB.out | apply bA_ | apply bN_ | apply bD_ | refine bS_ ?_ GE468.out | refine bS_ ?_ GE484.out) | exact HB.out)) hb); clear HO_4; clear HO_7; clear HO_485002; clear BK468; clear BK484; clear HB; have HO_4 := n0_; have HO_7 := n1_; have HO_485002 := n2_; have HO506 := n3_; have BK468 := n4_; have BK484 := n5_; have HB := n6_; clear n0_ n1_ n2_ n3_ n4_ n5_ n6_; (try clear hb); (try clear hb2); (try clear hk); (try clear hi); (try clear ho0); obtain ⟨Ao69, co69, eo69⟩ := Kd.R_slice HO506.out; subst eo69) | ((with_reducible refine gate_callee (f := 25) rfl ?_); refine goesL_ (some 76) rfl rfl Try.func25 (by kernel_rfl) rfl #[.agg #[.int .i8 t502, .int .i8 t503, .slice Ao69 t504.length co69]] rfl (by (try simp only [List.map_toArray, List.map_cons, List.map_nil]); first | done | rfl | (simp only [List.length_drop, List.length_take]; rfl)) ?_; (with_reducible refine (impl_OpenCells.calls kj38 t502 t503 _ _ t504 t507 t510 _ ?side1 ?side2 A62.out).mono ?_); (case side1 => repeat (first | exact (Kd.R_reads' HO506.out).2.2 | (with_reducible refine Kd.C_alloc ?_ _) | (with_reducible refine Kd.C_drewN ?_ _) | (with_reducible refine Kd.C_drew ?_))); (case side2 => exact (Kd.R_reads' HO506.out).2.1); rintro e w70 ⟨v508, rfl, ho0, hb⟩; refine ⟨_, rfl, ?_⟩; have n0_ := am_ (Kd.R_elder' (by (with_reducible repeat (first | apply Kd.R_alloc | apply Kd.R_drewN | apply Kd.R_drew)); exact HO_4.out) (Kd.R_base ho0) hb); have n1_ := am_ (Kd.R_elder' (by (with_reducible repeat (first | apply Kd.R_alloc | apply Kd.R_drewN | apply Kd.R_drew)); exact HO_7.out) (Kd.R_base ho0) hb); have n2_ := am_ (Kd.R_below (by (with_reducible repeat (first | apply Kd.R_alloc | apply Kd.R_drewN | apply Kd.R_drew)); exact HO_485002.out) hb); have n3_ := am_ (Kd.R_below (by (with_reducible repeat (first | apply Kd.R_alloc | apply Kd.R_drewN | apply Kd.R_drew)); exact HO506.out) hb); have n4_ := am_ (Kd.R_lower (Kd.R_new' (Kd.R_new' ho0 (Kd.R_lt (by (with_reducible repeat (first | apply Kd.R_alloc | apply Kd.R_drewN | apply Kd.R_drew)); exact HO_4.out))) (Kd.R_lt (by (with_reducible repeat (first | apply Kd.R_alloc | apply Kd.R_drewN | apply Kd.R_drew)); exact HO_7.out))) (below_size (by repeat (first | (with_reducible first | exact HB.out | apply bA_ | apply bN_ | apply bD_ | refine bS_ ?_ GE468.out | refine bS_ ?_ GE484.out) | exact HB.out)))); have n5_ := am_ (blk_below (g := gb468) (o := .cells #[.int .i8 a0_0, .int .i8 a0_1, .slice A0_2 l0_2.length c0_2] 25 (0, 0)) (by (with_reducible repeat (first | refine kN_ ?_ _ | refine kD_ ?_ | refine kA_ ?_ _)); exact BK468.out) hb); have n6_ := am_ (blk_below (g := gb484) (o := .cells #[.int .i8 t479, .int .i8 t480, .slice Ao24 t497.length co24] 30 (0, 0)) (by (with_reducible repeat (first | refine kN_ ?_ _ | refine kD_ ?_ | refine kA_ ?_ _)); exact BK484.out) hb); have n7_ := am_ (bT_ (by repeat (first | (with_reducible first | exact HB.out | apply bA_ | apply bN_ | apply bD_ | refine bS_ ?_ GE468.out | refine bS_ ?_ GE484.out) | exact HB.out)) hb); clear HO_4; clear HO_7; clear HO_485002; clear HO506; clear BK468; clear BK484; clear HB; have HO_4 := n0_; have HO_7 := n1_; have HO_485002 := n2_; have HO506 := n3_; have HO509 := n4_; have BK468 := n5_; have BK484 := n6_; have HB := n7_; clear n0_ n1_ n2_ n3_ n4_ n5_ n6_ n7_; (try clear hb); (try clear hb2); (try clear hk); (try clear hi); (try clear ho0)))
           (try simp only [Act.put, List.setIfInBounds_toArray, List.set_cons_zero, List.set_cons_succ])
           go_cut [87] (fun v87 wc => ∃ (kq : Nat) (x87_62 : Bool), v87 = .bool x87_62 ∧ Aside0 (laws_FnExactOpenCells.j2 kq t500 t499 x87_62 = some true) ∧ Aside0 (kq ≤ kj38) ∧ Aside0 (Kd.R k46 46 wc w.heap.size (fun _ => True) (.slice Ao64 t485.length co64) t500) ∧ Aside0 (Kd.R k38 38 wc w.heap.size (fun _ => True) (.slice Ao24 t497.length co24) t497) ∧ Aside0 (wc.heap[gb468]? = some (.cells #[.int .i8 a0_0, .int .i8 a0_1, (.slice A0_2 l0_2.length c0_2)] 25 (0, 0))) ∧ Aside0 (wc.heap[gb484]? = some (.cells #[.int .i8 t479, .int .i8 t480, (.slice Ao24 t497.length co24)] 30 (0, 0))) ∧ Aside0 (Below w.heap.size w wc))
           case first =>
            have H := HC63.out; clear HC63; replace H := Option.bind_eq_some_iff.mp H; obtain ⟨t511, A710, H⟩ := H; replace H : (if t511 = true then (laws_FnExactOpenCells.j2 kj38 t500 t499 (t510 != t478)) else (laws_FnExactOpenCells.j2 kj38 t500 t499 true)) = some true := H; have A71 := am_ A710; clear A710
            by_cases c72 : t511 = true
            ·
             subst c72; have H1 : (laws_FnExactOpenCells.j2 kj38 t500 t499 (t510 != t478)) = some true := by rw [if_pos rfl] at H; exact H
             clear H; have H := H1; clear H1; have H' := am_ H; clear H; obtain ⟨Ao73, co73, eo73⟩ := Kd.R_slice HO509.out; subst eo73; obtain ⟨Ao74, co74, eo74⟩ := Kd.R_slice HO_4.out; subst eo74
             go_wp2_with (first | ((with_reducible refine gate_callee (f := 26) rfl ?_); refine goesL_ (some 81) rfl rfl Try.func26 (by kernel_rfl) rfl #[.slice Ao73 t507.length co73, .slice Ao74 t475.length co74] rfl (by (try simp only [List.map_toArray, List.map_cons, List.map_nil]); first | done | rfl | (simp only [List.length_drop, List.length_take]; rfl)) ?_; (with_reducible refine (laws_eqCellS.calls kj38 _ _ t507 _ _ t475 true _ ?side1 ?side2 ?side3 ?side4 A71.out).mono ?_); (case side1 => repeat (first | exact (Kd.R_reads' HO509.out).2.2 | (with_reducible refine Kd.C_alloc ?_ _) | (with_reducible refine Kd.C_drewN ?_ _) | (with_reducible refine Kd.C_drew ?_))); (case side2 => exact (Kd.R_reads' HO509.out).2.1); (case side3 => repeat (first | exact (Kd.R_reads' HO_4.out).2.2 | (with_reducible refine Kd.C_alloc ?_ _) | (with_reducible refine Kd.C_drewN ?_ _) | (with_reducible refine Kd.C_drew ?_))); (case side4 => exact (Kd.R_reads' HO_4.out).2.1); rintro e w75 ⟨rfl, hb⟩; refine ⟨_, rfl, ?_⟩; have n0_ := am_ (Kd.R_below (by (with_reducible repeat (first | apply Kd.R_alloc | apply Kd.R_drewN | apply Kd.R_drew)); exact HO_4.out) hb); have n1_ := am_ (Kd.R_below (by (with_reducible repeat (first | apply Kd.R_alloc | apply Kd.R_drewN | apply Kd.R_drew)); exact HO_7.out) hb); have n2_ := am_ (Kd.R_below (by (with_reducible repeat (first | apply Kd.R_alloc | apply Kd.R_drewN | apply Kd.R_drew)); exact HO_485002.out) hb); have n3_ := am_ (Kd.R_below (by (with_reducible repeat (first | apply Kd.R_alloc | apply Kd.R_drewN | apply Kd.R_drew)); exact HO506.out) hb); have n4_ := am_ (Kd.R_below (by (with_reducible repeat (first | apply Kd.R_alloc | apply Kd.R_drewN | apply Kd.R_drew)); exact HO509.out) hb); have n5_ := am_ (blk_below (g := gb468) (o := .cells #[.int .i8 a0_0, .int .i8 a0_1, .slice A0_2 l0_2.length c0_2] 25 (0, 0)) (by (with_reducible repeat (first | refine kN_ ?_ _ | refine kD_ ?_ | refine kA_ ?_ _)); exact BK468.out) hb); have n6_ := am_ (blk_below (g := gb484) (o := .cells #[.int .i8 t479, .int .i8 t480, .slice Ao24 t497.length co24] 30 (0, 0)) (by (with_reducible repeat (first | refine kN_ ?_ _ | refine kD_ ?_ | refine kA_ ?_ _)); exact BK484.out) hb); have n7_ := am_ (bT_ (by repeat (first | (with_reducible first | exact HB.out | apply bA_ | apply bN_ | apply bD_ | refine bS_ ?_ GE468.out | refine bS_ ?_ GE484.out) | exact HB.out)) hb); clear HO_4; clear HO_7; clear HO_485002; clear HO506; clear HO509; clear BK468; clear BK484; clear HB; have HO_4 := n0_; have HO_7 := n1_; have HO_485002 := n2_; have HO506 := n3_; have HO509 := n4_; have BK468 := n5_; have BK484 := n6_; have HB := n7_; clear n0_ n1_ n2_ n3_ n4_ n5_ n6_ n7_; (try clear hb); (try clear hb2); (try clear hk); (try clear hi)))
             go_meet
             case rel => exact ⟨_, ((t510 != t478)), (by first | rfl | (simp; done) | (simp [*]; done)), H', ⟨by have := HJ10.out; have := HJ38.out; first | omega | exact Nat.le_refl _⟩, ⟨by (try simp only [hl485002_38]); (with_reducible repeat (first | apply Kd.R_alloc | apply Kd.R_drewN | apply Kd.R_drew)); exact Kd.R_mono HO_7.out (fun _ hk => trivial)⟩, ⟨by (try simp only [hl485002_38]); (with_reducible repeat (first | apply Kd.R_alloc | apply Kd.R_drewN | apply Kd.R_drew)); exact Kd.R_mono HO_485002.out (fun _ hk => trivial)⟩, ⟨by (try simp only [hl485002_38]); (with_reducible repeat (first | refine kN_ ?_ _ | refine kD_ ?_ | refine kA_ ?_ _)); exact BK468.out⟩, ⟨by (try simp only [hl485002_38]); (with_reducible repeat (first | refine kN_ ?_ _ | refine kD_ ?_ | refine kA_ ?_ _)); exact BK484.out⟩, ⟨by repeat (first | (with_reducible first | exact HB.out | apply bA_ | apply bN_ | apply bD_ | refine bS_ ?_ GE468.out | refine bS_ ?_ GE484.out) | exact HB.out)⟩⟩
            ·
             replace c72 := Bool.eq_false_iff.mpr c72; subst c72; have H1 : (laws_FnExactOpenCells.j2 kj38 t500 t499 true) = some true := by rw [if_neg (show ¬ (false = true) by decide)] at H; exact H
             clear H; have H := H1; clear H1; have H' := am_ H; clear H; obtain ⟨Ao76, co76, eo76⟩ := Kd.R_slice HO509.out; subst eo76; obtain ⟨Ao77, co77, eo77⟩ := Kd.R_slice HO_4.out; subst eo77
             go_wp2_with (first | ((with_reducible refine gate_callee (f := 26) rfl ?_); refine goesL_ (some 81) rfl rfl Try.func26 (by kernel_rfl) rfl #[.slice Ao76 t507.length co76, .slice Ao77 t475.length co77] rfl (by (try simp only [List.map_toArray, List.map_cons, List.map_nil]); first | done | rfl | (simp only [List.length_drop, List.length_take]; rfl)) ?_; (with_reducible refine (laws_eqCellS.calls kj38 _ _ t507 _ _ t475 false _ ?side1 ?side2 ?side3 ?side4 A71.out).mono ?_); (case side1 => repeat (first | exact (Kd.R_reads' HO509.out).2.2 | (with_reducible refine Kd.C_alloc ?_ _) | (with_reducible refine Kd.C_drewN ?_ _) | (with_reducible refine Kd.C_drew ?_))); (case side2 => exact (Kd.R_reads' HO509.out).2.1); (case side3 => repeat (first | exact (Kd.R_reads' HO_4.out).2.2 | (with_reducible refine Kd.C_alloc ?_ _) | (with_reducible refine Kd.C_drewN ?_ _) | (with_reducible refine Kd.C_drew ?_))); (case side4 => exact (Kd.R_reads' HO_4.out).2.1); rintro e w78 ⟨rfl, hb⟩; refine ⟨_, rfl, ?_⟩; have n0_ := am_ (Kd.R_below (by (with_reducible repeat (first | apply Kd.R_alloc | apply Kd.R_drewN | apply Kd.R_drew)); exact HO_4.out) hb); have n1_ := am_ (Kd.R_below (by (with_reducible repeat (first | apply Kd.R_alloc | apply Kd.R_drewN | apply Kd.R_drew)); exact HO_7.out) hb); have n2_ := am_ (Kd.R_below (by (with_reducible repeat (first | apply Kd.R_alloc | apply Kd.R_drewN | apply Kd.R_drew)); exact HO_485002.out) hb); have n3_ := am_ (Kd.R_below (by (with_reducible repeat (first | apply Kd.R_alloc | apply Kd.R_drewN | apply Kd.R_drew)); exact HO506.out) hb); have n4_ := am_ (Kd.R_below (by (with_reducible repeat (first | apply Kd.R_alloc | apply Kd.R_drewN | apply Kd.R_drew)); exact HO509.out) hb); have n5_ := am_ (blk_below (g := gb468) (o := .cells #[.int .i8 a0_0, .int .i8 a0_1, .slice A0_2 l0_2.length c0_2] 25 (0, 0)) (by (with_reducible repeat (first | refine kN_ ?_ _ | refine kD_ ?_ | refine kA_ ?_ _)); exact BK468.out) hb); have n6_ := am_ (blk_below (g := gb484) (o := .cells #[.int .i8 t479, .int .i8 t480, .slice Ao24 t497.length co24] 30 (0, 0)) (by (with_reducible repeat (first | refine kN_ ?_ _ | refine kD_ ?_ | refine kA_ ?_ _)); exact BK484.out) hb); have n7_ := am_ (bT_ (by repeat (first | (with_reducible first | exact HB.out | apply bA_ | apply bN_ | apply bD_ | refine bS_ ?_ GE468.out | refine bS_ ?_ GE484.out) | exact HB.out)) hb); clear HO_4; clear HO_7; clear HO_485002; clear HO506; clear HO509; clear BK468; clear BK484; clear HB; have HO_4 := n0_; have HO_7 := n1_; have HO_485002 := n2_; have HO506 := n3_; have HO509 := n4_; have BK468 := n5_; have BK484 := n6_; have HB := n7_; clear n0_ n1_ n2_ n3_ n4_ n5_ n6_ n7_; (try clear hb); (try clear hb2); (try clear hk); (try clear hi)))
             go_meet
             case rel => exact ⟨_, (true), (by first | rfl | (simp; done) | (simp [*]; done)), H', ⟨by have := HJ10.out; have := HJ38.out; first | omega | exact Nat.le_refl _⟩, ⟨by (try simp only [hl485002_38]); (with_reducible repeat (first | apply Kd.R_alloc | apply Kd.R_drewN | apply Kd.R_drew)); exact Kd.R_mono HO_7.out (fun _ hk => trivial)⟩, ⟨by (try simp only [hl485002_38]); (with_reducible repeat (first | apply Kd.R_alloc | apply Kd.R_drewN | apply Kd.R_drew)); exact Kd.R_mono HO_485002.out (fun _ hk => trivial)⟩, ⟨by (try simp only [hl485002_38]); (with_reducible repeat (first | refine kN_ ?_ _ | refine kD_ ?_ | refine kA_ ?_ _)); exact BK468.out⟩, ⟨by (try simp only [hl485002_38]); (with_reducible repeat (first | refine kN_ ?_ _ | refine kD_ ?_ | refine kA_ ?_ _)); exact BK484.out⟩, ⟨by repeat (first | (with_reducible first | exact HB.out | apply bA_ | apply bN_ | apply bD_ | refine bS_ ?_ GE468.out | refine bS_ ?_ GE484.out) | exact HB.out)⟩⟩
           case rest =>
            clear HC63
            try clear c1
            try clear c2
            try clear p2
            try clear c3
            try clear c3b0
            try clear c4
            try clear c5
            try clear c6
            try clear c7
            try clear c11
            try clear c13
            try clear c15
            try clear c22
            try clear c24
            try clear c25
            try clear c26
            try clear c27
            try clear c28
            try clear c29
            try clear c34
            try clear c37
            try clear c44
            try clear c47
            try clear c47b0
            try clear c49
            try clear c56
            try clear c59
            try clear c59b0
            try clear c60
            try clear c60b0
            try clear c60b1
            try clear c66
            try clear c72
            try clear hcz13_0
            try clear hcz13_1
            try clear hcz13_2
            try clear hcz15_0
            try clear hcz15_1
            try clear hcz15_2
            try clear hcz19_0
            try clear hcz19_1
            try clear hcz19_2
            try clear hcz23_0
            try clear hcz23_1
            try clear hcz23_2
            try clear hcz45_0
            try clear hcz45_1
            try clear hcz45_2
            try clear hcz5_0
            try clear hcz5_1
            try clear hcz5_2
            try clear hcz67_0
            try clear hcz67_1
            try clear hcz67_2
            try clear hfz13_0
            try clear hfz13_1
            try clear hfz13_2
            try clear hfz15_0
            try clear hfz15_1
            try clear hfz15_2
            try clear hfz19_0
            try clear hfz19_1
            try clear hfz19_2
            try clear hfz23_0
            try clear hfz23_1
            try clear hfz23_2
            try clear hfz45_0
            try clear hfz45_1
            try clear hfz45_2
            try clear hfz5_0
            try clear hfz5_1
            try clear hfz5_2
            try clear hfz67_0
            try clear hfz67_1
            try clear hfz67_2
            try clear p2
            obtain ⟨kq, x87_62, rfl, HA, HJ62, HO_7, HO_485002, BK468, BK484, HB⟩ := hcut; have hl7_62 := (Kd.R_reads' HO_7.out).1; rw [hl7_62] at HO_7
            (try simp only [hl7_62])
            (try simp only [hl7_62] at BK468)
            (try simp only [hl7_62] at BK484)
            (try simp only [hl7_62] at HO_485002)
            cases kq with
            | zero => exact absurd HA.out (by simp [laws_FnExactOpenCells.j2])
            | succ kj62 =>
             have H := HA.out; clear HA; simp only [laws_FnExactOpenCells.j2] at H
             by_cases c79 : x87_62 = true
             ·
              subst c79; have H1 : (some false) = some true := by rw [if_pos rfl] at H; exact H
              clear H; have H := H1; clear H1; exact absurd (Option.some.inj H) (by decide)
             ·
              replace c79 := Bool.eq_false_iff.mpr c79; subst c79; have H1 : ((laws_heldCellS.f kj62 t500 1).bind fun t512 => (if t512 < 0 then (some false) else (if t512 = t499 then (some true) else (some false)))) = some true := by rw [if_neg (show ¬ (false = true) by decide)] at H; exact H
              clear H; have H := H1; clear H1; replace H := Option.bind_eq_some_iff.mp H; obtain ⟨t512, A800, H⟩ := H; replace H : (if t512 < 0 then (some false) else (if t512 = t499 then (some true) else (some false))) = some true := H; have A80 := am_ A800; clear A800
              by_cases c81 : t512 < 0
              ·
               rw [if_pos c81] at H; have c81b0 : decide (t512 < 0) = true := decide_eq_true c81; clear c81; exact absurd (Option.some.inj H) (by decide)
              ·
               rw [if_neg c81] at H; have c81b0 : decide (t512 < 0) = false := decide_eq_false c81; clear c81
               by_cases c82 : t512 = t499
               ·
                rw [if_pos c82] at H; have c82b0 : (t512 == t499) = true := beq_iff_eq.mpr c82; have c82b1 : (t512 != t499) = false := bne_eq_false_iff_eq.mpr c82; clear c82; clear H
                go_wp2_with (first | ((with_reducible refine gate_callee (f := 29) rfl ?_); refine goesL_ (some 90) rfl rfl Try.func29 (by kernel_rfl) rfl #[.slice Ao64 t500.length co64, .int .i64 1] rfl (by (try simp only [List.map_toArray, List.map_cons, List.map_nil]); first | done | rfl | (simp only [List.length_drop, List.length_take]; rfl)) ?_; (with_reducible refine (laws_heldCellS.calls kj62 _ _ t500 1 t512 _ ?side1 ?side2 A80.out).mono ?_); (case side1 => repeat (first | exact (Kd.R_reads' HO_7.out).2.2 | (with_reducible refine Kd.C_alloc ?_ _) | (with_reducible refine Kd.C_drewN ?_ _) | (with_reducible refine Kd.C_drew ?_))); (case side2 => exact (Kd.R_reads' HO_7.out).2.1); rintro e w' ⟨rfl, ⟨nd, rfl⟩⟩; refine ⟨_, rfl, ?_⟩))
                go_ret
                exact ⟨by first | rfl | (simp [errW_none, errW_some] <;> rfl) | (simp [*, errW_none, errW_some] <;> rfl), by repeat (first | (with_reducible first | exact HB.out | apply bA_ | apply bN_ | apply bD_ | refine bS_ ?_ GE468.out | refine bS_ ?_ GE484.out) | exact HB.out)⟩
               ·
                rw [if_neg c82] at H; have c82b0 : (t512 == t499) = false := beq_eq_false_iff_ne.mpr c82; have c82b1 : (t512 != t499) = true := bne_iff_ne.mpr c82; exact absurd (Option.some.inj H) (by decide)
          ·
           rw [if_neg c60] at H; have c60b0 : (t501 == t499) = false := beq_eq_false_iff_ne.mpr c60; have c60b1 : (t501 != t499) = true := bne_iff_ne.mpr c60; exact absurd (Option.some.inj H) (by decide)
     ·
      replace c37 := Bool.eq_false_iff.mpr c37; subst c37; have H1 : (some false) = some true := by rw [if_neg (show ¬ (false = true) by decide)] at H; exact H
      clear H; have H := H1; clear H1; exact absurd (Option.some.inj H) (by decide)
end Go.Proofs.Ytpelelodjigijaa.Q
