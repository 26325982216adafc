-- By a program of this session's, out of the translation (with the kit's print). Lean checks it.
import Derived.Test.YtabooaeobpgadaaXQ0
import Derived.Test.YtabooaeobpgadaaXQ14
namespace Go.Proofs.Ytabooaeobpgadaa.Q
open Go.RowKit Go.Proofs.YtabooaeobpgadaaW.PrintWords Go.Proofs.YtabooaeobpgadaaW.PrintLast Go.Proofs.YtabooaeobpgadaaW.PrintMore
attribute [local go_sem] max2_int min2_int max_two min_two max_three min_three max_four min_four
set_option linter.unusedVariables false
set_option linter.unusedSimpArgs false
mutual
def impl_fill.l0 : Nat → Int → Int → List (List (S71)) → List Int → Int → List (S66) → Int → Int → Int → Int → Option (List Int × Int × Bool)
 | 0, _, _, _, _, _, _, _, _, _, _ => none
 | k + 1, x1, x2, x9, x11, x12, x37, x38, x39, x801000, x801001 => if x39 < x38 then (if 0 ≤ x39 then (if x39 < (x37.length : Int) then (impl_fill.l1 k x1 x2 x9 x11 x12 x39 0 x37 x38 x39 x801000 x801001 ((rd_T66 x37 x39).f0) ((rd_T66 x37 x39).f1)) else (none)) else (none)) else (some (x11, x801001, true))
def impl_fill.l1 : Nat → Int → Int → List (List (S71)) → List Int → Int → Int → Int → List (S66) → Int → Int → Int → Int → Int → Int → Option (List Int × Int × Bool)
 | 0, _, _, _, _, _, _, _, _, _, _, _, _, _, _ => none
 | k + 1, x1, x2, x9, x11, x12, x13, x15, x37, x38, x39, x801000, x801001, x806000, x806001 => if 0 ≤ (wrap64 (x13 + 1)) then (if (wrap64 (x13 + 1)) < (x9.length : Int) then (if 0 ≤ (wrap64 (x1 - (wrap64 (x15 * (wrap64 ((wrap64 (x806000)) + x2)))))) then (if (wrap64 (x1 - (wrap64 (x15 * (wrap64 ((wrap64 (x806000)) + x2)))))) < ((rd_L7 x9 (wrap64 (x13 + 1))).length : Int) then (if ((rd_T71 (rd_L7 x9 (wrap64 (x13 + 1))) (wrap64 (x1 - (wrap64 (x15 * (wrap64 ((wrap64 (x806000)) + x2))))))).f0) > 0 then (if (wrap64 (((rd_T71 (rd_L7 x9 (wrap64 (x13 + 1))) (wrap64 (x1 - (wrap64 (x15 * (wrap64 ((wrap64 (x806000)) + x2))))))).f1) + x15)) = x12 then (if x11.length < 17592186044416 then (impl_fill.l0 k (wrap64 (x1 - (wrap64 (x15 * (wrap64 ((wrap64 (x806000)) + x2)))))) x2 x9 (x11 ++ [x15]) (wrap64 (x12 - x15)) x37 x38 (wrap64 (x39 + 1)) x801000 x801001) else (none)) else (impl_fill.l1 k x1 x2 x9 x11 x12 x13 (wrap64 (x15 + 1)) x37 x38 x39 x801000 x801001 x806000 x806001)) else (impl_fill.l1 k x1 x2 x9 x11 x12 x13 (wrap64 (x15 + 1)) x37 x38 x39 x801000 x801001 x806000 x806001)) else (none)) else (none)) else (none)) else (none)
end
def impl_fill.f (k : Nat) (l0 : List (S66)) (a1 : Int) (a2 : Int) : Option (List Int × Int × Bool) := (impl_fillings.f k l0 (wrap64 (a1 + a2)) a2).bind fun t795 => (if 0 < (t795.length : Int) then (if 0 ≤ (wrap64 (a1 + a2)) then (if (wrap64 (a1 + a2)) < ((rd_L7 t795 0).length : Int) then (if ((rd_T71 (rd_L7 t795 0) (wrap64 (a1 + a2))).f0) = 0 then (some (([] : List Int), 0, false)) else (impl_fill.l0 k (wrap64 (a1 + a2)) a2 t795 (([] : List Int)) ((rd_T71 (rd_L7 t795 0) (wrap64 (a1 + a2))).f1) l0 (l0.length : Int) 0 ((rd_T71 (rd_L7 t795 0) (wrap64 (a1 + a2))).f0) ((rd_T71 (rd_L7 t795 0) (wrap64 (a1 + a2))).f1))) else (none)) else (none)) else (none))
theorem impl_fill.mono_l : ∀ k, (∀ y0 y1 y2 y3 y4 y5 y6 y7 y8 y9, LeO (impl_fill.l0 k y0 y1 y2 y3 y4 y5 y6 y7 y8 y9) (impl_fill.l0 (k + 1) y0 y1 y2 y3 y4 y5 y6 y7 y8 y9)) ∧ (∀ y0 y1 y2 y3 y4 y5 y6 y7 y8 y9 y10 y11 y12 y13, LeO (impl_fill.l1 k y0 y1 y2 y3 y4 y5 y6 y7 y8 y9 y10 y11 y12 y13) (impl_fill.l1 (k + 1) y0 y1 y2 y3 y4 y5 y6 y7 y8 y9 y10 y11 y12 y13))
 | 0 => ⟨fun _ _ _ _ _ _ _ _ _ _ r h => by simp [impl_fill.l0] at h, fun _ _ _ _ _ _ _ _ _ _ _ _ _ _ r h => by simp [impl_fill.l1] at h⟩
 | k + 1 => by
  obtain ⟨ih0, ih1⟩ := impl_fill.mono_l k
  refine ⟨?_, ?_⟩
  ·
   intro y0 y1 y2 y3 y4 y5 y6 y7 y8 y9
   unfold impl_fill.l0
   repeat' first
   | (with_reducible exact ih0 _ _ _ _ _ _ _ _ _ _)
   | (with_reducible exact ih1 _ _ _ _ _ _ _ _ _ _ _ _ _ _)
   | (with_reducible exact impl_fillings.mono _ _ _ _)
   | (with_reducible exact LeO.refl _)
   | (with_reducible exact LeO.none _)
   | (with_reducible refine LeO.ite ?_ ?_)
   | (with_reducible refine LeO.bind ?_ (fun _ => ?_))
   | exact ih0 _ _ _ _ _ _ _ _ _ _
   | exact ih1 _ _ _ _ _ _ _ _ _ _ _ _ _ _
   | exact impl_fillings.mono _ _ _ _
   | exact LeO.none _
   | refine LeO.ite ?_ ?_
   | refine LeO.bind ?_ (fun _ => ?_)
  ·
   intro y0 y1 y2 y3 y4 y5 y6 y7 y8 y9 y10 y11 y12 y13
   unfold impl_fill.l1
   repeat' first
   | (with_reducible exact ih0 _ _ _ _ _ _ _ _ _ _)
   | (with_reducible exact ih1 _ _ _ _ _ _ _ _ _ _ _ _ _ _)
   | (with_reducible exact impl_fillings.mono _ _ _ _)
   | (with_reducible exact LeO.refl _)
   | (with_reducible exact LeO.none _)
   | (with_reducible refine LeO.ite ?_ ?_)
   | (with_reducible refine LeO.bind ?_ (fun _ => ?_))
   | exact ih0 _ _ _ _ _ _ _ _ _ _
   | exact ih1 _ _ _ _ _ _ _ _ _ _ _ _ _ _
   | exact impl_fillings.mono _ _ _ _
   | exact LeO.none _
   | refine LeO.ite ?_ ?_
   | refine LeO.bind ?_ (fun _ => ?_)
theorem impl_fill.mono : ∀ a0 a1 a2 k, LeO (impl_fill.f k a0 a1 a2) (impl_fill.f (k + 1) a0 a1 a2) := by
 intro a0 a1 a2 k
 obtain ⟨ih0, ih1⟩ := impl_fill.mono_l k
 unfold impl_fill.f
 repeat' first
   | (with_reducible exact ih0 _ _ _ _ _ _ _ _ _ _)
   | (with_reducible exact ih1 _ _ _ _ _ _ _ _ _ _ _ _ _ _)
   | (with_reducible exact impl_fillings.mono _ _ _ _)
   | (with_reducible exact LeO.refl _)
   | (with_reducible exact LeO.none _)
   | (with_reducible refine LeO.ite ?_ ?_)
   | (with_reducible refine LeO.bind ?_ (fun _ => ?_))
   | exact ih0 _ _ _ _ _ _ _ _ _ _
   | exact ih1 _ _ _ _ _ _ _ _ _ _ _ _ _ _
   | exact impl_fillings.mono _ _ _ _
   | exact LeO.none _
   | refine LeO.ite ?_ ?_
   | refine LeO.bind ?_ (fun _ => ?_)
set_option maxHeartbeats 8000000 in
set_option maxRecDepth 100000 in
theorem impl_fill.calls (k : Nat) (A0 : Option Addr) (c0 : Nat) (l0 : List (S66)) (a1 : Int) (a2 : Int) (r1 : List Int) (r2 : Int) (r3 : Bool) (w : World) (hr0 : Kd.C k66 w A0 l0.length l0) (hc0 : l0.length ≤ c0) (h : impl_fill.f k l0 a1 a2 = some (r1, r2, r3)) :
  Calls Try.prog 77 #[.slice A0 l0.length c0, .int .i64 a1, .int .i64 a2] w fun e w' => ∃ v0_ : Value, e = .returned (.tuple #[v0_, .int .i64 r2, .bool r3]) ∧ Kd.R (Kd.int .i64) 2 w' w.heap.size (fun _ => True) v0_ r1 ∧ Below w.heap.size w w' := by
 have hu71 := Try.underlying71
 have hu66 := Try.underlying66
 have HR0 := Aside0.mk hr0
 have HC0 := Aside0.mk hc0
 clear hr0 hc0
 have HB := Aside0.mk (Below.refl w.heap.size w)
 have H : ((impl_fillings.f k l0 (wrap64 (a1 + a2)) a2).bind fun t795 => (if 0 < (t795.length : Int) then (if 0 ≤ (wrap64 (a1 + a2)) then (if (wrap64 (a1 + a2)) < ((rd_L7 t795 0).length : Int) then (if ((rd_T71 (rd_L7 t795 0) (wrap64 (a1 + a2))).f0) = 0 then (some (([] : List Int), 0, false)) else (impl_fill.l0 k (wrap64 (a1 + a2)) a2 t795 (([] : List Int)) ((rd_T71 (rd_L7 t795 0) (wrap64 (a1 + a2))).f1) l0 (l0.length : Int) 0 ((rd_T71 (rd_L7 t795 0) (wrap64 (a1 + a2))).f0) ((rd_T71 (rd_L7 t795 0) (wrap64 (a1 + a2))).f1))) else (none)) else (none)) else (none))) = some (r1, r2, r3) := h
 clear h
 replace H := Option.bind_eq_some_iff.mp H
 obtain ⟨t795, A40, H⟩ := H
 replace H : (if 0 < (t795.length : Int) then (if 0 ≤ (wrap64 (a1 + a2)) then (if (wrap64 (a1 + a2)) < ((rd_L7 t795 0).length : Int) then (if ((rd_T71 (rd_L7 t795 0) (wrap64 (a1 + a2))).f0) = 0 then (some (([] : List Int), 0, false)) else (impl_fill.l0 k (wrap64 (a1 + a2)) a2 t795 (([] : List Int)) ((rd_T71 (rd_L7 t795 0) (wrap64 (a1 + a2))).f1) l0 (l0.length : Int) 0 ((rd_T71 (rd_L7 t795 0) (wrap64 (a1 + a2))).f0) ((rd_T71 (rd_L7 t795 0) (wrap64 (a1 + a2))).f1))) else (none)) else (none)) else (none)) = some (r1, r2, r3) := H
 have A4 := Aside0.mk A40
 clear A40
 by_cases c5 : 0 < (t795.length : Int)
 ·
  rw [if_pos c5] at H
  have c5b0 : decide (0 < (t795.length : Int)) = true := decide_eq_true c5
  have c5b1 : decide (0 < t795.length) = true := decide_eq_true (by omega)
  clear c5
  obtain ⟨ji6, hji6⟩ : ∃ j_ : Int, (wrap64 (a1 + a2)) = j_ := ⟨_, rfl⟩
  replace H : (if 0 ≤ (ji6) then (if (ji6) < ((rd_L7 t795 0).length : Int) then (if ((rd_T71 (rd_L7 t795 0) (ji6)).f0) = 0 then (some (([] : List Int), 0, false)) else (impl_fill.l0 k ji6 a2 t795 (([] : List Int)) ((rd_T71 (rd_L7 t795 0) (ji6)).f1) l0 (l0.length : Int) 0 ((rd_T71 (rd_L7 t795 0) (ji6)).f0) ((rd_T71 (rd_L7 t795 0) (ji6)).f1))) else (none)) else (none)) = some (r1, r2, r3) := by first | (rw [hji6] at H; exact H) | (simp only [hji6] at H ⊢; exact H)
  (try rw [hji6] at A4)
  have hji6w : (IntKind.i64.wrap (a1 + a2)) = ji6 := (i64_w _).trans hji6
  by_cases c7 : 0 ≤ (ji6)
  ·
   rw [if_pos c7] at H
   have c7b0 : decide (0 ≤ (ji6)) = true := decide_eq_true c7
   clear c7
   by_cases c8 : (ji6) < ((rd_L7 t795 0).length : Int)
   ·
    rw [if_pos c8] at H
    have c8b0 : decide ((ji6) < ((rd_L7 t795 0).length : Int)) = true := decide_eq_true c8
    clear c8
    by_cases c9 : ((rd_T71 (rd_L7 t795 0) (ji6)).f0) = 0
    ·
     rw [if_pos c9] at H
     have c9b0 : (((rd_T71 (rd_L7 t795 0) (ji6)).f0) == 0) = true := beq_iff_eq.mpr c9
     have c9b1 : (((rd_T71 (rd_L7 t795 0) (ji6)).f0) != 0) = false := bne_eq_false_iff_eq.mpr c9
     clear c9
     simp only [Option.some.injEq, Prod.mk.injEq] at H
     obtain ⟨rfl, rfl, rfl⟩ := H
     go_enter Try.func77, Try.ntmps77
     go_wp2_with (first | ((with_reducible refine gate_callee (f := 62) rfl ?_); refine goesL_ (some 24) rfl rfl Try.func62 (by kernel_rfl) rfl #[.slice A0 l0.length c0, .int .i64 ji6, .int .i64 a2] rfl (by (try simp only [List.map_toArray, List.map_cons, List.map_nil]); first | done | (simp only [hji6]; rfl) | rfl | (simp only [List.length_drop, List.length_take]; rfl)) ?_; (with_reducible refine (impl_fillings.calls k _ _ l0 ji6 a2 t795 _ ?side1 ?side2 A4.out).mono ?_); (case side1 => repeat (first | exact HR0.out | (with_reducible refine Kd.C_alloc ?_ _) | (with_reducible refine Kd.C_drewN ?_ _) | (with_reducible refine Kd.C_drew ?_))); (case side2 => exact HC0.out); rintro e w10 ⟨v796, rfl, ho0, hb⟩; refine ⟨_, rfl, ?_⟩; have n0_ := Aside0.mk (Kd.S_lower ho0 (below_size (by repeat (first | (with_reducible first | exact HB.out | apply below_alloc | apply pw_below_drewN | apply below_drew1) | exact HB.out)))); have n1_ := Aside0.mk (below_step (by repeat (first | (with_reducible first | exact HB.out | apply below_alloc | apply pw_below_drewN | apply below_drew1) | exact HB.out)) hb); clear HB; have HO797 := n0_; have HB := n1_; clear n0_ n1_; (try clear hb); (try clear hb2); (try clear hk); (try clear hi); (try clear ho0); obtain ⟨Ao11, co11, eo11⟩ := Kd.S_slice HO797.out; subst eo11; have p798 : 0 ≤ (0 : Int) := (by omega); have q798 : 0 < (t795.length : Int) := of_decide_eq_true (by first | (with_reducible assumption) | assumption); obtain ⟨ad798, A798_0, c798_0, e798, hx798_0, hl798_0, hi798_0⟩ := at_L7 (Kd.S_reads' HO797.out).2.2 0 p798 q798; cases e798; obtain ⟨ce798, hce798, hMe798, hcc798⟩ := Kd.S_get HO797.out [] 0 p798 (by first | exact q798 | exact of_decide_eq_true (by first | (with_reducible assumption) | assumption) | (have e_ := (Kd.S_reads' HO797.out).1; omega)); obtain ⟨ve798_0, rfl, ge798_0⟩ := hMe798; have hv798_0 := hcc798 0 _ rfl; rw [Nat.add_zero, show ((Kd.slice 71 k71)).sz = 1 from rfl, Nat.mul_one] at hv798_0; replace hv798_0 := Option.some.inj (hv798_0.symm.trans hx798_0); rw [hv798_0] at ge798_0; have HL798_0 := Aside0.mk (show Kd.R k71 71 _ _ _ _ (rd_L7 t795 0) from ge798_0); clear hv798_0 ge798_0; clear hcc798 hce798; have qi798 : (0 < t795.length) = True := eq_true (by omega); (try rw [show ((0 : Int)).toNat = 0 from rfl] at hx798_0); (try rw [Addr.add_zero'] at hx798_0); have HR798_0 := Aside0.mk hi798_0; have HC798_0 := Aside0.mk hl798_0; clear hi798_0 hl798_0; replace p798 := eq_true p798; replace q798 := eq_true q798; have p799 : 0 ≤ ((ji6) : Int) := of_decide_eq_true (by first | (with_reducible assumption) | assumption); have q799 : (ji6) < ((rd_L7 t795 0).length : Int) := of_decide_eq_true (by first | (with_reducible assumption) | assumption); obtain ⟨ad799, e799, hx799_0, hx799_1⟩ := at_T71 (by repeat (first | (with_reducible exact HR798_0.out) | (with_reducible refine Kd.C_alloc ?_ _) | (with_reducible refine Kd.C_drewN ?_ _) | (with_reducible refine Kd.C_drew ?_) | exact HR798_0.out)) (ji6) p799 q799; cases e799; replace p799 := eq_true p799; replace q799 := eq_true q799) | ((with_reducible refine gate_dst (N := 10) rfl ?_); refine box_event ?hg (N := 10) ?hd (cs := #[.int .i64 0, .int .i64 0]) (t := 71) ?hr ?_; (case hd => rfl); (case hg => rfl); (case hr => first | (go_simp; done) | (go_simp; rfl)); intro gb800 hg w12 hbox hb; have n0_ := Aside0.mk (Kd.S_below (Kd.S_elderB (by (with_reducible repeat (first | apply Kd.S_alloc | apply Kd.S_drewN | apply Kd.S_drew)); exact HO797.out) gb800 (Nat.le_of_eq hg.symm)) hb); have n1_ := Aside0.mk (Kd.R_below (Kd.R_elderB (by (with_reducible repeat (first | apply Kd.R_alloc | apply Kd.R_drewN | apply Kd.R_drew)); exact HL798_0.out) gb800 (Nat.le_of_eq hg.symm)) hb); have n2_ := Aside0.mk (Kd.C_below (by repeat (first | (with_reducible exact HR798_0.out) | (with_reducible refine Kd.C_alloc ?_ _) | (with_reducible refine Kd.C_drewN ?_ _) | (with_reducible refine Kd.C_drew ?_) | exact HR798_0.out)) hb); have n3_ := Aside0.mk (below_step (by repeat (first | (with_reducible first | exact HB.out | apply below_alloc | apply pw_below_drewN | apply below_drew1) | exact HB.out)) hb); have n4_ := Aside0.mk (hbox); have n5_ := Aside0.mk ((by rw [hg]; exact (below_size (by repeat (first | (with_reducible first | exact HB.out | apply below_alloc | apply pw_below_drewN | apply below_drew1) | exact HB.out))) : w.heap.size ≤ gb800)); have n6_ := Aside0.mk ((by rw [hg]; exact (below_size (by repeat (first | (with_reducible first | exact HB.out | apply below_alloc | apply pw_below_drewN | apply below_drew1) | exact HB.out))) : w.heap.size ≤ gb800)); clear HO797; clear HL798_0; clear HR798_0; clear HB; have HO797 := n0_; have HL798_0 := n1_; have HR798_0 := n2_; have HB := n3_; have BK800 := n4_; have GW800 := n5_; have GE800 := n6_; clear n0_ n1_ n2_ n3_ n4_ n5_ n6_; clear hb hbox hg; have hcz13_0 : w12.cell? ⟨gb800, 0, none⟩ = some (.int .i64 0) := (blk_cell BK800.out 0).trans rfl; have hcz13_1 : w12.cell? ⟨gb800, 1, none⟩ = some (.int .i64 0) := (blk_cell BK800.out 1).trans rfl; have hfz13_0 := blk_frozen BK800.out 0; have hfz13_1 := blk_frozen BK800.out 1))
     go_ret3
     exact ⟨_, by first | rfl | (simp [errW_none, errW_some] <;> rfl) | (simp only [← hji6]; first | rfl | (simp [errW_none, errW_some] <;> rfl)) | (simp [*, errW_none, errW_some] <;> rfl), by first | exact Kd.R_nil _ _ _ _ _ | exact Kd.N_nil _ _ _ _ _ | exact Kd.V_nil _ _ _ _ _ | exact Kd.Q_nil _ _ _ _ _ | exact Kd.S_nil _ _ _ _ _, by repeat (first | (with_reducible first | exact HB.out | apply below_alloc | apply pw_below_drewN | apply below_drew1 | refine below_set ?_ GE800.out) | exact HB.out)⟩
    ·
     rw [if_neg c9] at H
     have c9b0 : (((rd_T71 (rd_L7 t795 0) (ji6)).f0) == 0) = false := beq_eq_false_iff_ne.mpr c9
     have c9b1 : (((rd_T71 (rd_L7 t795 0) (ji6)).f0) != 0) = true := bne_iff_ne.mpr c9
     obtain ⟨y801, hy801⟩ : ∃ y_ : List Int, y_ = (([] : List Int)) := ⟨_, rfl⟩
     replace H : (impl_fill.l0 k ji6 a2 t795 y801 ((rd_T71 (rd_L7 t795 0) (ji6)).f1) l0 (l0.length : Int) 0 ((rd_T71 (rd_L7 t795 0) (ji6)).f0) ((rd_T71 (rd_L7 t795 0) (ji6)).f1)) = some (r1, r2, r3) := by first | (rw [hy801]; with_reducible exact H) | (have H2_ := (Option.bind_some _ _).symm.trans H; rw [hy801]; with_reducible exact H2_) | (have H2_ := (Option.bind_some _ _).symm.trans H; with_reducible exact H2_) | with_reducible exact H | (rw [hy801]; exact H) | exact H
     have Ny801 := Aside0.mk hy801
     clear hy801
     have H' := Aside0.mk H
     clear H
     go_enter Try.func77, Try.ntmps77
     try go_wp2_with (first | ((with_reducible refine gate_callee (f := 62) rfl ?_); refine goesL_ (some 24) rfl rfl Try.func62 (by kernel_rfl) rfl #[.slice A0 l0.length c0, .int .i64 ji6, .int .i64 a2] rfl (by (try simp only [List.map_toArray, List.map_cons, List.map_nil]); first | done | (simp only [hji6]; rfl) | rfl | (simp only [List.length_drop, List.length_take]; rfl)) ?_; (with_reducible refine (impl_fillings.calls k _ _ l0 ji6 a2 t795 _ ?side1 ?side2 A4.out).mono ?_); (case side1 => repeat (first | exact HR0.out | (with_reducible refine Kd.C_alloc ?_ _) | (with_reducible refine Kd.C_drewN ?_ _) | (with_reducible refine Kd.C_drew ?_))); (case side2 => exact HC0.out); rintro e w14 ⟨v796, rfl, ho0, hb⟩; refine ⟨_, rfl, ?_⟩; have n0_ := Aside0.mk (Kd.S_lower ho0 (below_size (by repeat (first | (with_reducible first | exact HB.out | apply below_alloc | apply pw_below_drewN | apply below_drew1) | exact HB.out)))); have n1_ := Aside0.mk (below_step (by repeat (first | (with_reducible first | exact HB.out | apply below_alloc | apply pw_below_drewN | apply below_drew1) | exact HB.out)) hb); clear HB; have HO797 := n0_; have HB := n1_; clear n0_ n1_; (try clear hb); (try clear hb2); (try clear hk); (try clear hi); (try clear ho0); obtain ⟨Ao15, co15, eo15⟩ := Kd.S_slice HO797.out; subst eo15; have p798 : 0 ≤ (0 : Int) := (by omega); have q798 : 0 < (t795.length : Int) := of_decide_eq_true (by first | (with_reducible assumption) | assumption); obtain ⟨ad798, A798_0, c798_0, e798, hx798_0, hl798_0, hi798_0⟩ := at_L7 (Kd.S_reads' HO797.out).2.2 0 p798 q798; cases e798; obtain ⟨ce798, hce798, hMe798, hcc798⟩ := Kd.S_get HO797.out [] 0 p798 (by first | exact q798 | exact of_decide_eq_true (by first | (with_reducible assumption) | assumption) | (have e_ := (Kd.S_reads' HO797.out).1; omega)); obtain ⟨ve798_0, rfl, ge798_0⟩ := hMe798; have hv798_0 := hcc798 0 _ rfl; rw [Nat.add_zero, show ((Kd.slice 71 k71)).sz = 1 from rfl, Nat.mul_one] at hv798_0; replace hv798_0 := Option.some.inj (hv798_0.symm.trans hx798_0); rw [hv798_0] at ge798_0; have HL798_0 := Aside0.mk (show Kd.R k71 71 _ _ _ _ (rd_L7 t795 0) from ge798_0); clear hv798_0 ge798_0; clear hcc798 hce798; have qi798 : (0 < t795.length) = True := eq_true (by omega); (try rw [show ((0 : Int)).toNat = 0 from rfl] at hx798_0); (try rw [Addr.add_zero'] at hx798_0); have HR798_0 := Aside0.mk hi798_0; have HC798_0 := Aside0.mk hl798_0; clear hi798_0 hl798_0; replace p798 := eq_true p798; replace q798 := eq_true q798; have p799 : 0 ≤ ((ji6) : Int) := of_decide_eq_true (by first | (with_reducible assumption) | assumption); have q799 : (ji6) < ((rd_L7 t795 0).length : Int) := of_decide_eq_true (by first | (with_reducible assumption) | assumption); obtain ⟨ad799, e799, hx799_0, hx799_1⟩ := at_T71 (by repeat (first | (with_reducible exact HR798_0.out) | (with_reducible refine Kd.C_alloc ?_ _) | (with_reducible refine Kd.C_drewN ?_ _) | (with_reducible refine Kd.C_drew ?_) | exact HR798_0.out)) (ji6) p799 q799; cases e799; replace p799 := eq_true p799; replace q799 := eq_true q799) | ((with_reducible refine gate_dst (N := 10) rfl ?_); refine box_event ?hg (N := 10) ?hd (cs := #[.int .i64 0, .int .i64 0]) (t := 71) ?hr ?_; (case hd => rfl); (case hg => rfl); (case hr => first | (go_simp; done) | (go_simp; rfl)); intro gb800 hg w16 hbox hb; have n0_ := Aside0.mk (Kd.S_below (Kd.S_elderB (by (with_reducible repeat (first | apply Kd.S_alloc | apply Kd.S_drewN | apply Kd.S_drew)); exact HO797.out) gb800 (Nat.le_of_eq hg.symm)) hb); have n1_ := Aside0.mk (Kd.R_below (Kd.R_elderB (by (with_reducible repeat (first | apply Kd.R_alloc | apply Kd.R_drewN | apply Kd.R_drew)); exact HL798_0.out) gb800 (Nat.le_of_eq hg.symm)) hb); have n2_ := Aside0.mk (Kd.C_below (by repeat (first | (with_reducible exact HR798_0.out) | (with_reducible refine Kd.C_alloc ?_ _) | (with_reducible refine Kd.C_drewN ?_ _) | (with_reducible refine Kd.C_drew ?_) | exact HR798_0.out)) hb); have n3_ := Aside0.mk (below_step (by repeat (first | (with_reducible first | exact HB.out | apply below_alloc | apply pw_below_drewN | apply below_drew1) | exact HB.out)) hb); have n4_ := Aside0.mk (hbox); have n5_ := Aside0.mk ((by rw [hg]; exact (below_size (by repeat (first | (with_reducible first | exact HB.out | apply below_alloc | apply pw_below_drewN | apply below_drew1) | exact HB.out))) : w.heap.size ≤ gb800)); have n6_ := Aside0.mk ((by rw [hg]; exact (below_size (by repeat (first | (with_reducible first | exact HB.out | apply below_alloc | apply pw_below_drewN | apply below_drew1) | exact HB.out))) : w.heap.size ≤ gb800)); clear HO797; clear HL798_0; clear HR798_0; clear HB; have HO797 := n0_; have HL798_0 := n1_; have HR798_0 := n2_; have HB := n3_; have BK800 := n4_; have GW800 := n5_; have GE800 := n6_; clear n0_ n1_ n2_ n3_ n4_ n5_ n6_; clear hb hbox hg; have hcz17_0 : w16.cell? ⟨gb800, 0, none⟩ = some (.int .i64 0) := (blk_cell BK800.out 0).trans rfl; have hcz17_1 : w16.cell? ⟨gb800, 1, none⟩ = some (.int .i64 0) := (blk_cell BK800.out 1).trans rfl; have hfz17_0 := blk_frozen BK800.out 0; have hfz17_1 := blk_frozen BK800.out 1))
     have n0_ : Aside0 (Kd.S (Kd.slice 71 k71) 72 ((w16.setCell ⟨gb800, 0, none⟩ (.int .i64 ((rd_T71 (rd_L7 t795 0) (ji6)).f0))).setCell ⟨gb800, 1, none⟩ (.int .i64 ((rd_T71 (rd_L7 t795 0) (ji6)).f1))) w.heap.size (fun k_ => k_ ≠ gb800) (.slice (some ad798) t795.length co15) t795) := ⟨by (with_reducible repeat (first | apply Kd.S_alloc | apply Kd.S_drewN | apply Kd.S_drew)); exact Kd.S_mono (Kd.S_far (p := ⟨gb800, 1, none⟩) (Kd.S_far (p := ⟨gb800, 0, none⟩) (Kd.S_mono HO797.out (fun k_ hk => (⟨hk, hk.2⟩ : _ ∧ k_ ≠ gb800))) (fun _ hk => hk.2) (.int .i64 ((rd_T71 (rd_L7 t795 0) (ji6)).f0))) (fun _ hk => hk.2) (.int .i64 ((rd_T71 (rd_L7 t795 0) (ji6)).f1))) (fun _ hk => hk.1.2)⟩
     have n1_ : Aside0 (Kd.R k71 71 ((w16.setCell ⟨gb800, 0, none⟩ (.int .i64 ((rd_T71 (rd_L7 t795 0) (ji6)).f0))).setCell ⟨gb800, 1, none⟩ (.int .i64 ((rd_T71 (rd_L7 t795 0) (ji6)).f1))) w.heap.size (fun k_ => some k_ ≠ (.slice (some ad798) t795.length co15 : Value).ownBlock ∧ k_ ≠ gb800) (.slice (some ad799) (rd_L7 t795 0).length c798_0) (rd_L7 t795 0)) := ⟨by (with_reducible repeat (first | apply Kd.R_alloc | apply Kd.R_drewN | apply Kd.R_drew)); exact Kd.R_mono (Kd.R_far (p := ⟨gb800, 1, none⟩) (Kd.R_far (p := ⟨gb800, 0, none⟩) (Kd.R_mono HL798_0.out (fun k_ hk => (⟨hk, hk.2⟩ : _ ∧ k_ ≠ gb800))) (fun _ hk => hk.2) (.int .i64 ((rd_T71 (rd_L7 t795 0) (ji6)).f0))) (fun _ hk => hk.2) (.int .i64 ((rd_T71 (rd_L7 t795 0) (ji6)).f1))) (fun _ hk => ⟨hk.1.1.2, hk.1.2⟩)⟩
     have n2_ : Aside0 (((w16.setCell ⟨gb800, 0, none⟩ (.int .i64 ((rd_T71 (rd_L7 t795 0) (ji6)).f0))).setCell ⟨gb800, 1, none⟩ (.int .i64 ((rd_T71 (rd_L7 t795 0) (ji6)).f1))).heap[gb800]? = some (.cells #[.int .i64 ((rd_T71 (rd_L7 t795 0) (ji6)).f0), .int .i64 ((rd_T71 (rd_L7 t795 0) (ji6)).f1)] 71 (0, 0))) := ⟨by (with_reducible repeat (first | refine blk_drewN ?_ _ | refine blk_drew ?_ | refine blk_alloc ?_ _)); refine blk_put (cs := #[.int .i64 ((rd_T71 (rd_L7 t795 0) (ji6)).f0), .int .i64 0]) ?_ 1 _ rfl; (with_reducible repeat (first | refine blk_drewN ?_ _ | refine blk_drew ?_ | refine blk_alloc ?_ _)); refine blk_put (cs := #[.int .i64 0, .int .i64 0]) ?_ 0 _ rfl; (with_reducible repeat (first | refine blk_drewN ?_ _ | refine blk_drew ?_ | refine blk_alloc ?_ _)); exact BK800.out⟩
     have n3_ : Aside0 (Below w.heap.size w ((w16.setCell ⟨gb800, 0, none⟩ (.int .i64 ((rd_T71 (rd_L7 t795 0) (ji6)).f0))).setCell ⟨gb800, 1, none⟩ (.int .i64 ((rd_T71 (rd_L7 t795 0) (ji6)).f1)))) := ⟨by repeat (first | (with_reducible first | exact HB.out | apply below_alloc | apply pw_below_drewN | apply below_drew1 | refine below_set ?_ GE800.out) | exact HB.out)⟩
     (try clear HO797)
     (try clear HL798_0)
     (try clear BK800)
     (try clear HB)
     generalize ((w16.setCell ⟨gb800, 0, none⟩ (.int .i64 ((rd_T71 (rd_L7 t795 0) (ji6)).f0))).setCell ⟨gb800, 1, none⟩ (.int .i64 ((rd_T71 (rd_L7 t795 0) (ji6)).f1))) = w18 at n0_ n1_ n2_ n3_ ⊢
     have HO797 := n0_
     have HL798_0 := n1_
     have BK800 := n2_
     have HB := n3_
     clear n0_ n1_ n2_ n3_
     have n0_ := Aside0.mk (Kd.S_drew HO797.out)
     have n1_ := Aside0.mk (Kd.R_drew HL798_0.out)
     have n2_ := Aside0.mk (blk_drew BK800.out)
     have n3_ := Aside0.mk (below_drew1 HB.out)
     clear HO797
     clear HL798_0
     clear BK800
     clear HB
     have HO797 := n0_
     have HL798_0 := n1_
     have BK800 := n2_
     have HB := n3_
     clear n0_ n1_ n2_ n3_
     refine start_ (n := 5) (S := fun w' => w'.cell? ⟨gb800, 0, none⟩ = some (.int .i64 ((rd_T71 (rd_L7 t795 0) (ji6)).f0)) ∧ w'.cell? ⟨gb800, 1, none⟩ = some (.int .i64 ((rd_T71 (rd_L7 t795 0) (ji6)).f1))) (ds := []) #[false, false, false, false, false] (by kernel_rfl) rfl rfl ⟨(blk_cell BK800.out 0).trans rfl, (blk_cell BK800.out 1).trans rfl⟩ (fun hHeld => ?_)
     generalize w18.drew = w19 at HO797 HL798_0 BK800 HB hHeld ⊢
     refine pure_ (i := 1) (N := some 35) (v := ?_) (a' := ?_) #[false, true, false, false, false] rfl rfl (by kernel_rfl) (fun _ _ _ h => h) (Or.inl ⟨by rfl, ?_⟩) ?_ ?_
     rotate_left
     ·
      intro w'
      go_simp
      with_reducible rfl
     rotate_left
     ·
      simp only [Act.put, List.setIfInBounds_toArray, List.set_cons_zero, List.set_cons_succ, i64_w, i32_w]
      rfl
     refine take_ (i := 2) (N := some 36) (v := ?_) (a' := ?_) #[false, true, true, false, false] rfl rfl (by kernel_rfl) (fun _ _ _ h => h) (Or.inl ⟨by rfl, ?_⟩) hHeld ?_ ?_
     rotate_left
     ·
      rintro w' ⟨s0, s1⟩
      go_simp
      with_reducible rfl
     rotate_left
     ·
      simp only [Act.put, List.setIfInBounds_toArray, List.set_cons_zero, List.set_cons_succ, i64_w, i32_w]
      rfl
     refine one_ (i := 0) (N := some 34) #[true, true, true, false, false] rfl rfl (by kernel_rfl) (by decide) (fun K hK => ?_)
     refine Kd.R_lit_step (Kd.int .i64) _ 2 ?hg (N := 34) ?hd (xs := ([] : List Int)) (inner := []) (ok := fun _ => True) (okp := fun _ => True) ?hr ?hp (fun _ hk => hk) trivial (Below.refl _ _) (Nat.le_refl _) (by simp) ?_; (case hd => rfl); (case hg => rfl); (case hr => first | (go_simp; done) | (go_simp; rfl)); (case hp => exact (Reps.none _ _))
     intro v802 w20 ho21 hb hg_ hnew_
     clear hg_ hnew_
     (first | rw [← Ny801.out] at ho21 | (simp only [Int.reduceToNat] at ho21; rw [← Ny801.out] at ho21))
     have n0_ := Aside0.mk (Kd.S_below (by (with_reducible repeat (first | apply Kd.S_alloc | apply Kd.S_drewN | apply Kd.S_drew)); exact HO797.out) hb)
     have n1_ := Aside0.mk (Kd.R_below (by (with_reducible repeat (first | apply Kd.R_alloc | apply Kd.R_drewN | apply Kd.R_drew)); exact HL798_0.out) hb)
     have n2_ := Aside0.mk (Kd.R_lower ho21 (below_size (by repeat (first | (with_reducible first | exact HB.out | apply below_alloc | apply pw_below_drewN | apply below_drew1 | refine below_set ?_ GE800.out) | exact HB.out))))
     have n3_ := Aside0.mk (blk_below (g := gb800) (o := .cells #[.int .i64 ((rd_T71 (rd_L7 t795 0) (ji6)).f0), .int .i64 ((rd_T71 (rd_L7 t795 0) (ji6)).f1)] 71 (0, 0)) (by (with_reducible repeat (first | refine blk_drewN ?_ _ | refine blk_drew ?_ | refine blk_alloc ?_ _)); exact BK800.out) hb)
     have n4_ := Aside0.mk (below_step (by repeat (first | (with_reducible first | exact HB.out | apply below_alloc | apply pw_below_drewN | apply below_drew1 | refine below_set ?_ GE800.out) | exact HB.out)) hb)
     clear HO797
     clear HL798_0
     clear BK800
     clear HB
     have HO797 := n0_
     have HL798_0 := n1_
     have HO803 := n2_
     have BK800 := n3_
     have HB := n4_
     clear n0_ n1_ n2_ n3_ n4_
     clear hb ho21
     refine hK.out _ _ ⟨(blk_cell BK800.out 0).trans rfl, (blk_cell BK800.out 1).trans rfl⟩ (fun hHeld => ?_)
     clear hK K
     refine norm_ (a' := ?_) ?_ ?_
     rotate_left
     ·
      show Act.put _ (some 34) _ = _
      simp only [Act.put, List.setIfInBounds_toArray, List.set_cons_zero, List.set_cons_succ, i64_w, i32_w]
      rfl
     refine pure_ (i := 3) (N := some 11) (v := ?_) (a' := ?_) #[true, true, true, true, false] rfl rfl (by kernel_rfl) (fun _ _ _ h => h) (Or.inl ⟨by rfl, ?_⟩) ?_ ?_
     rotate_left
     ·
      intro w'
      go_simp
      with_reducible rfl
     rotate_left
     ·
      simp only [Act.put, List.setIfInBounds_toArray, List.set_cons_zero, List.set_cons_succ, i64_w, i32_w]
      rfl
     refine pure_ (i := 4) (N := some 12) (v := ?_) (a' := ?_) #[true, true, true, true, true] rfl rfl (by kernel_rfl) (fun _ _ _ h => h) (Or.inl ⟨by rfl, ?_⟩) ?_ ?_
     rotate_left
     ·
      intro w'
      go_simp
      with_reducible rfl
     rotate_left
     ·
      simp only [Act.put, List.setIfInBounds_toArray, List.set_cons_zero, List.set_cons_succ, i64_w, i32_w]
      rfl
     refine done_ (by kernel_rfl) ?_
     try go_wp2
     go_loopg [1, 11, 12, 39] k (fun kq v1 v11 v12 v39 w' => ∃ (x1_1 : Int) (x11_1 : List Int) (x12_1 : Int) (x39_1 : Int), v1 = .int .i64 x1_1 ∧ v12 = .int .i64 x12_1 ∧ v39 = .int .i64 x39_1 ∧ Aside0 (impl_fill.l0 kq x1_1 a2 t795 x11_1 x12_1 l0 (l0.length : Int) x39_1 ((rd_T71 (rd_L7 t795 0) (ji6)).f0) ((rd_T71 (rd_L7 t795 0) (ji6)).f1) = some (r1, r2, r3)) ∧ Aside0 (kq ≤ k) ∧ Aside0 (Kd.S (Kd.slice 71 k71) 72 w' w.heap.size (fun k_ => k_ ≠ gb800) (.slice (some ad798) t795.length co15) t795) ∧ Aside0 (Kd.R (Kd.int .i64) 2 w' w.heap.size (fun _ => True) v11 x11_1) ∧ Aside0 (w'.heap[gb800]? = some (.cells #[.int .i64 ((rd_T71 (rd_L7 t795 0) (ji6)).f0), .int .i64 ((rd_T71 (rd_L7 t795 0) (ji6)).f1)] 71 (0, 0))) ∧ Aside0 (Below w.heap.size w w'))
     case atStart => exact ⟨(ji6), (y801), ((rd_T71 (rd_L7 t795 0) (ji6)).f1), (0), (by first | rfl | (simp; done) | (simp only [← hji6] <;> (first | rfl | simp)) | (simp [*]; done)), (by first | rfl | (simp; done) | (simp only [← hji6] <;> (first | rfl | simp)) | (simp [*]; done)), (by first | rfl | (simp; done) | (simp [*]; done)), H', ⟨Nat.le_refl _⟩, ⟨by (with_reducible repeat (first | apply Kd.S_alloc | apply Kd.S_drewN | apply Kd.S_drew)); exact HO797.out⟩, ⟨by (with_reducible repeat (first | apply Kd.R_alloc | apply Kd.R_drewN | apply Kd.R_drew)); exact HO803.out⟩, ⟨by (with_reducible repeat (first | refine blk_drewN ?_ _ | refine blk_drew ?_ | refine blk_alloc ?_ _)); exact BK800.out⟩, ⟨by repeat (first | (with_reducible first | exact HB.out | apply below_alloc | apply pw_below_drewN | apply below_drew1 | refine below_set ?_ GE800.out) | exact HB.out)⟩⟩
     case round =>
      clear H'
      try clear p2
      try clear c5
      try clear c5b0
      try clear c5b1
      try clear c6
      try clear p6
      try clear c7
      try clear c7b0
      try clear p7
      try clear q7
      try clear hx7
      try clear qi7
      try clear c8
      try clear c8b0
      try clear c9
      try clear c9b0
      try clear c9b1
      try clear hcz13_0
      try clear hcz13_1
      try clear hcz17_0
      try clear hcz17_1
      try clear hfz13_0
      try clear hfz13_1
      try clear hfz17_0
      try clear hfz17_1
      try clear hx798_0
      try clear hx799_0
      try clear hx799_1
      try clear p798
      try clear p799
      try clear q798
      try clear q799
      obtain ⟨x1_1, x11_1, x12_1, x39_1, rfl, rfl, rfl, HA, HK1, HO_9, HO_11, BK800, HB⟩ := hrel
      cases gk with
      | zero => exact absurd HA.out (by simp [impl_fill.l0])
      | succ k1 =>
       have H := HA.out
       clear HA
       simp only [impl_fill.l0] at H
       by_cases c22 : x39_1 < (l0.length : Int)
       ·
        rw [if_pos c22] at H
        have c22b0 : decide (x39_1 < (l0.length : Int)) = true := decide_eq_true c22
        clear c22
        by_cases c23 : 0 ≤ x39_1
        ·
         rw [if_pos c23] at H
         have c23b0 : decide (0 ≤ x39_1) = true := decide_eq_true c23
         clear c23
         by_cases c24 : x39_1 < (l0.length : Int)
         ·
          rw [if_pos c24] at H
          have c24b0 : decide (x39_1 < (l0.length : Int)) = true := decide_eq_true c24
          clear c24
          have H' := Aside0.mk H
          clear H
          have p804 : 0 ≤ (x39_1 : Int) := of_decide_eq_true (by first | (with_reducible assumption) | assumption)
          have q804 : x39_1 < (l0.length : Int) := of_decide_eq_true (by first | (with_reducible assumption) | assumption)
          obtain ⟨ad804, e804, hx804_0, hx804_1⟩ := at_T66 HR0.out x39_1 p804 q804
          cases e804
          replace hx804_0 := (HB.out.cell (World.block_lt_of_cell? w _ hx804_0)).trans hx804_0
          replace hx804_1 := (HB.out.cell (World.block_lt_of_cell? w _ hx804_1)).trans hx804_1
          replace p804 := eq_true p804
          replace q804 := eq_true q804
          go_wp2_with (first | ((with_reducible refine gate_dst (N := 14) rfl ?_); refine box_event ?hg (N := 14) ?hd (cs := #[.int .i8 0, .int .i16 0]) (t := 66) ?hr ?_; (case hd => rfl); (case hg => rfl); (case hr => first | (go_simp; done) | (go_simp; rfl)); intro gb805 hg w25 hbox hb; have n0_ := Aside0.mk (Kd.S_below (by (with_reducible repeat (first | apply Kd.S_alloc | apply Kd.S_drewN | apply Kd.S_drew)); exact HO_9.out) hb); have n1_ := Aside0.mk (Kd.R_below (by (with_reducible repeat (first | apply Kd.R_alloc | apply Kd.R_drewN | apply Kd.R_drew)); exact HO_11.out) hb); have n2_ := Aside0.mk (blk_below (g := gb800) (o := .cells #[.int .i64 ((rd_T71 (rd_L7 t795 0) (ji6)).f0), .int .i64 ((rd_T71 (rd_L7 t795 0) (ji6)).f1)] 71 (0, 0)) (by (with_reducible repeat (first | refine blk_drewN ?_ _ | refine blk_drew ?_ | refine blk_alloc ?_ _)); exact BK800.out) hb); have n3_ := Aside0.mk (below_step (by repeat (first | (with_reducible first | exact HB.out | apply below_alloc | apply pw_below_drewN | apply below_drew1 | refine below_set ?_ GE800.out) | exact HB.out)) hb); have n4_ := Aside0.mk (hbox); have n5_ := Aside0.mk ((by rw [hg]; exact (below_size (by repeat (first | (with_reducible first | exact HB.out | apply below_alloc | apply pw_below_drewN | apply below_drew1 | refine below_set ?_ GE800.out) | exact HB.out))) : w.heap.size ≤ gb805)); have n6_ := Aside0.mk ((by rw [hg]; exact (below_size (by repeat (first | (with_reducible first | exact HB.out | apply below_alloc | apply pw_below_drewN | apply below_drew1 | refine below_set ?_ GE800.out) | exact HB.out))) : w.heap.size ≤ gb805)); have n7_ := Aside0.mk ((by rw [hg]; exact Nat.ne_of_lt (blk_lt (g := gb800) (o := .cells #[.int .i64 ((rd_T71 (rd_L7 t795 0) (ji6)).f0), .int .i64 ((rd_T71 (rd_L7 t795 0) (ji6)).f1)] 71 (0, 0)) (by (with_reducible repeat (first | refine blk_drewN ?_ _ | refine blk_drew ?_ | refine blk_alloc ?_ _)); exact BK800.out)) : gb800 ≠ gb805)); have n8_ := Aside0.mk ((by rw [hg]; exact Nat.ne_of_gt (blk_lt (g := gb800) (o := .cells #[.int .i64 ((rd_T71 (rd_L7 t795 0) (ji6)).f0), .int .i64 ((rd_T71 (rd_L7 t795 0) (ji6)).f1)] 71 (0, 0)) (by (with_reducible repeat (first | refine blk_drewN ?_ _ | refine blk_drew ?_ | refine blk_alloc ?_ _)); exact BK800.out)) : gb805 ≠ gb800)); clear HO_9; clear HO_11; clear BK800; clear HB; have HO_9 := n0_; have HO_11 := n1_; have BK800 := n2_; have HB := n3_; have BK805 := n4_; have GW805 := n5_; have GE805 := n6_; have NB800_805 := n7_; have NB805_800 := n8_; clear n0_ n1_ n2_ n3_ n4_ n5_ n6_ n7_ n8_; clear hb hbox hg; have hnb26 := NB805_800.out; have hnc26 := NB800_805.out; have hcz27_0 : w25.cell? ⟨gb805, 0, none⟩ = some (.int .i8 0) := (blk_cell BK805.out 0).trans rfl; have hcz27_1 : w25.cell? ⟨gb805, 1, none⟩ = some (.int .i16 0) := (blk_cell BK805.out 1).trans rfl; have hfz27_0 := blk_frozen BK805.out 0; have hfz27_1 := blk_frozen BK805.out 1))
          go_loopg [1, 11, 12, 15] k1 (fun kq v1 v11 v12 v15 w' => ∃ (x1_2 : Int) (x11_2 : List Int) (x12_2 : Int) (x15_2 : Int), v1 = .int .i64 x1_2 ∧ v12 = .int .i64 x12_2 ∧ v15 = .int .i64 x15_2 ∧ Aside0 (impl_fill.l1 kq x1_2 a2 t795 x11_2 x12_2 x39_1 x15_2 l0 (l0.length : Int) x39_1 ((rd_T71 (rd_L7 t795 0) (ji6)).f0) ((rd_T71 (rd_L7 t795 0) (ji6)).f1) ((rd_T66 l0 x39_1).f0) ((rd_T66 l0 x39_1).f1) = some (r1, r2, r3)) ∧ Aside0 (kq ≤ k1) ∧ Aside0 (Kd.S (Kd.slice 71 k71) 72 w' w.heap.size (fun k_ => k_ ≠ gb800) (.slice (some ad798) t795.length co15) t795) ∧ Aside0 (Kd.R (Kd.int .i64) 2 w' w.heap.size (fun _ => True) v11 x11_2) ∧ Aside0 (w'.heap[gb800]? = some (.cells #[.int .i64 ((rd_T71 (rd_L7 t795 0) (ji6)).f0), .int .i64 ((rd_T71 (rd_L7 t795 0) (ji6)).f1)] 71 (0, 0))) ∧ Aside0 (w'.heap[gb805]? = some (.cells #[.int .i8 ((rd_T66 l0 x39_1).f0), .int .i16 ((rd_T66 l0 x39_1).f1)] 66 (0, 0))) ∧ Aside0 (Below w.heap.size w w'))
          case atStart => exact ⟨(x1_1), (x11_1), (x12_1), (0), (by first | rfl | (simp; done) | (simp [*]; done)), (by first | rfl | (simp; done) | (simp [*]; done)), (by first | rfl | (simp; done) | (simp [*]; done)), H', ⟨Nat.le_refl _⟩, ⟨by (with_reducible repeat (first | apply Kd.S_alloc | apply Kd.S_drewN | apply Kd.S_drew)); exact Kd.S_mono (Kd.S_far (p := ⟨gb805, 1, none⟩) (Kd.S_far (p := ⟨gb805, 0, none⟩) (Kd.S_types HO_9.out BK805.out (by decide)) (fun _ hk => hk.2) (.int .i8 ((rd_T66 l0 x39_1).f0))) (fun _ hk => hk.2) (.int .i16 ((rd_T66 l0 x39_1).f1))) (fun _ hk => hk.1)⟩, ⟨by (with_reducible repeat (first | apply Kd.R_alloc | apply Kd.R_drewN | apply Kd.R_drew)); exact Kd.R_mono (Kd.R_far (p := ⟨gb805, 1, none⟩) (Kd.R_far (p := ⟨gb805, 0, none⟩) (Kd.R_types HO_11.out BK805.out (by decide)) (fun _ hk => hk.2) (.int .i8 ((rd_T66 l0 x39_1).f0))) (fun _ hk => hk.2) (.int .i16 ((rd_T66 l0 x39_1).f1))) (fun _ hk => trivial)⟩, ⟨by (with_reducible repeat (first | refine blk_drewN ?_ _ | refine blk_drew ?_ | refine blk_alloc ?_ _)); refine blk_far ?_ NB800_805.out _; (with_reducible repeat (first | refine blk_drewN ?_ _ | refine blk_drew ?_ | refine blk_alloc ?_ _)); refine blk_far ?_ NB800_805.out _; (with_reducible repeat (first | refine blk_drewN ?_ _ | refine blk_drew ?_ | refine blk_alloc ?_ _)); exact BK800.out⟩, ⟨by (with_reducible repeat (first | refine blk_drewN ?_ _ | refine blk_drew ?_ | refine blk_alloc ?_ _)); refine blk_put (cs := #[.int .i8 ((rd_T66 l0 x39_1).f0), .int .i16 0]) ?_ 1 _ rfl; (with_reducible repeat (first | refine blk_drewN ?_ _ | refine blk_drew ?_ | refine blk_alloc ?_ _)); refine blk_put (cs := #[.int .i8 0, .int .i16 0]) ?_ 0 _ rfl; (with_reducible repeat (first | refine blk_drewN ?_ _ | refine blk_drew ?_ | refine blk_alloc ?_ _)); exact BK805.out⟩, ⟨by repeat (first | (with_reducible first | exact HB.out | apply below_alloc | apply pw_below_drewN | apply below_drew1 | refine below_set ?_ GE800.out | refine below_set ?_ GE805.out) | exact HB.out)⟩⟩
          case round =>
           clear H'
           try clear c2
           try clear p2
           try clear c5
           try clear c5b0
           try clear c5b1
           try clear c6
           try clear p6
           try clear c7
           try clear c7b0
           try clear p7
           try clear q7
           try clear hx7
           try clear qi7
           try clear c8
           try clear c8b0
           try clear p8
           try clear q8
           try clear hx8
           try clear c9
           try clear c9b0
           try clear c9b1
           try clear c22
           try clear c22b0
           try clear c23
           try clear c23b0
           try clear c24
           try clear c24b0
           try clear c26
           try clear hcz13_0
           try clear hcz13_1
           try clear hcz17_0
           try clear hcz17_1
           try clear hcz27_0
           try clear hcz27_1
           try clear hfz13_0
           try clear hfz13_1
           try clear hfz17_0
           try clear hfz17_1
           try clear hfz27_0
           try clear hfz27_1
           try clear hx798_0
           try clear hx799_0
           try clear hx799_1
           try clear hx804_0
           try clear hx804_1
           try clear p2
           try clear p6
           try clear p7
           try clear p798
           try clear p799
           try clear p804
           try clear q7
           try clear q798
           try clear q799
           try clear q804
           obtain ⟨x1_2, x11_2, x12_2, x15_2, rfl, rfl, rfl, HA, HK2, HO_9, HO_11, BK800, BK805, HB⟩ := hrel
           cases gk with
           | zero => exact absurd HA.out (by simp [impl_fill.l1])
           | succ k2 =>
            have H := HA.out
            clear HA
            simp only [impl_fill.l1] at H
            obtain ⟨ji28, hji28⟩ : ∃ j_ : Int, (wrap64 (x39_1 + 1)) = j_ := ⟨_, rfl⟩
            replace H : (if 0 ≤ (ji28) then (if (ji28) < (t795.length : Int) then (if 0 ≤ (wrap64 (x1_2 - (wrap64 (x15_2 * (wrap64 ((wrap64 (((rd_T66 l0 x39_1).f0))) + a2)))))) then (if (wrap64 (x1_2 - (wrap64 (x15_2 * (wrap64 ((wrap64 (((rd_T66 l0 x39_1).f0))) + a2)))))) < ((rd_L7 t795 (ji28)).length : Int) then (if ((rd_T71 (rd_L7 t795 (ji28)) (wrap64 (x1_2 - (wrap64 (x15_2 * (wrap64 ((wrap64 (((rd_T66 l0 x39_1).f0))) + a2))))))).f0) > 0 then (if (wrap64 (((rd_T71 (rd_L7 t795 (ji28)) (wrap64 (x1_2 - (wrap64 (x15_2 * (wrap64 ((wrap64 (((rd_T66 l0 x39_1).f0))) + a2))))))).f1) + x15_2)) = x12_2 then (if x11_2.length < 17592186044416 then (impl_fill.l0 k2 (wrap64 (x1_2 - (wrap64 (x15_2 * (wrap64 ((wrap64 (((rd_T66 l0 x39_1).f0))) + a2)))))) a2 t795 (x11_2 ++ [x15_2]) (wrap64 (x12_2 - x15_2)) l0 (l0.length : Int) ji28 ((rd_T71 (rd_L7 t795 0) (ji6)).f0) ((rd_T71 (rd_L7 t795 0) (ji6)).f1)) else (none)) else (impl_fill.l1 k2 x1_2 a2 t795 x11_2 x12_2 x39_1 (wrap64 (x15_2 + 1)) l0 (l0.length : Int) x39_1 ((rd_T71 (rd_L7 t795 0) (ji6)).f0) ((rd_T71 (rd_L7 t795 0) (ji6)).f1) ((rd_T66 l0 x39_1).f0) ((rd_T66 l0 x39_1).f1))) else (impl_fill.l1 k2 x1_2 a2 t795 x11_2 x12_2 x39_1 (wrap64 (x15_2 + 1)) l0 (l0.length : Int) x39_1 ((rd_T71 (rd_L7 t795 0) (ji6)).f0) ((rd_T71 (rd_L7 t795 0) (ji6)).f1) ((rd_T66 l0 x39_1).f0) ((rd_T66 l0 x39_1).f1))) else (none)) else (none)) else (none)) else (none)) = some (r1, r2, r3) := by first | (rw [hji28] at H; exact H) | (simp only [hji28] at H ⊢; exact H)
            have hji28w : (IntKind.i64.wrap (x39_1 + 1)) = ji28 := (i64_w _).trans hji28
            by_cases c29 : 0 ≤ (ji28)
            ·
             rw [if_pos c29] at H
             have c29b0 : decide (0 ≤ (ji28)) = true := decide_eq_true c29
             clear c29
             by_cases c30 : (ji28) < (t795.length : Int)
             ·
              rw [if_pos c30] at H
              have c30b0 : decide ((ji28) < (t795.length : Int)) = true := decide_eq_true c30
              clear c30
              obtain ⟨ji31, hji31⟩ : ∃ j_ : Int, (wrap64 (x1_2 - (wrap64 (x15_2 * (wrap64 ((wrap64 (((rd_T66 l0 x39_1).f0))) + a2)))))) = j_ := ⟨_, rfl⟩
              replace H : (if 0 ≤ (ji31) then (if (ji31) < ((rd_L7 t795 (ji28)).length : Int) then (if ((rd_T71 (rd_L7 t795 (ji28)) (ji31)).f0) > 0 then (if (wrap64 (((rd_T71 (rd_L7 t795 (ji28)) (ji31)).f1) + x15_2)) = x12_2 then (if x11_2.length < 17592186044416 then (impl_fill.l0 k2 ji31 a2 t795 (x11_2 ++ [x15_2]) (wrap64 (x12_2 - x15_2)) l0 (l0.length : Int) ji28 ((rd_T71 (rd_L7 t795 0) (ji6)).f0) ((rd_T71 (rd_L7 t795 0) (ji6)).f1)) else (none)) else (impl_fill.l1 k2 x1_2 a2 t795 x11_2 x12_2 x39_1 (wrap64 (x15_2 + 1)) l0 (l0.length : Int) x39_1 ((rd_T71 (rd_L7 t795 0) (ji6)).f0) ((rd_T71 (rd_L7 t795 0) (ji6)).f1) ((rd_T66 l0 x39_1).f0) ((rd_T66 l0 x39_1).f1))) else (impl_fill.l1 k2 x1_2 a2 t795 x11_2 x12_2 x39_1 (wrap64 (x15_2 + 1)) l0 (l0.length : Int) x39_1 ((rd_T71 (rd_L7 t795 0) (ji6)).f0) ((rd_T71 (rd_L7 t795 0) (ji6)).f1) ((rd_T66 l0 x39_1).f0) ((rd_T66 l0 x39_1).f1))) else (none)) else (none)) = some (r1, r2, r3) := by first | (rw [hji31] at H; exact H) | (simp only [hji31] at H ⊢; exact H)
              have hji31w : (IntKind.i64.wrap (x1_2 - (wrap64 (x15_2 * (wrap64 ((wrap64 (((rd_T66 l0 x39_1).f0))) + a2)))))) = ji31 := (i64_w _).trans hji31
              by_cases c32 : 0 ≤ (ji31)
              ·
               rw [if_pos c32] at H
               have c32b0 : decide (0 ≤ (ji31)) = true := decide_eq_true c32
               clear c32
               by_cases c33 : (ji31) < ((rd_L7 t795 (ji28)).length : Int)
               ·
                rw [if_pos c33] at H
                have c33b0 : decide ((ji31) < ((rd_L7 t795 (ji28)).length : Int)) = true := decide_eq_true c33
                clear c33
                by_cases c34 : ((rd_T71 (rd_L7 t795 (ji28)) (ji31)).f0) > 0
                ·
                 rw [if_pos c34] at H
                 have c34b0 : decide (0 < ((rd_T71 (rd_L7 t795 (ji28)) (ji31)).f0)) = true := decide_eq_true c34
                 clear c34
                 by_cases c35 : (wrap64 (((rd_T71 (rd_L7 t795 (ji28)) (ji31)).f1) + x15_2)) = x12_2
                 ·
                  rw [if_pos c35] at H
                  have c35b0 : ((wrap64 (((rd_T71 (rd_L7 t795 (ji28)) (ji31)).f1) + x15_2)) == x12_2) = true := beq_iff_eq.mpr c35
                  have c35b1 : ((wrap64 (((rd_T71 (rd_L7 t795 (ji28)) (ji31)).f1) + x15_2)) != x12_2) = false := bne_eq_false_iff_eq.mpr c35
                  clear c35
                  by_cases c36 : x11_2.length < 17592186044416
                  ·
                   rw [if_pos c36] at H
                   have LMc36 := Aside0.mk c36
                   clear c36
                   obtain ⟨y809, hy809⟩ : ∃ y_ : List Int, y_ = (x11_2 ++ [x15_2]) := ⟨_, rfl⟩
                   replace H : (impl_fill.l0 k2 ji31 a2 t795 y809 (wrap64 (x12_2 - x15_2)) l0 (l0.length : Int) ji28 ((rd_T71 (rd_L7 t795 0) (ji6)).f0) ((rd_T71 (rd_L7 t795 0) (ji6)).f1)) = some (r1, r2, r3) := by first | (rw [hy809]; with_reducible exact H) | (have H2_ := (Option.bind_some _ _).symm.trans H; rw [hy809]; with_reducible exact H2_) | (have H2_ := (Option.bind_some _ _).symm.trans H; with_reducible exact H2_) | with_reducible exact H | (rw [hy809]; exact H) | exact H
                   have Ny809 := Aside0.mk hy809
                   clear hy809
                   have H' := Aside0.mk H
                   clear H
                   have hnb37 := NB805_800.out
                   have hnc37 := NB800_805.out
                   have hcz38_0 : wr.cell? ⟨gb805, 0, none⟩ = some (.int .i8 ((rd_T66 l0 x39_1).f0)) := (blk_cell BK805.out 0).trans rfl
                   have hcz38_1 : wr.cell? ⟨gb805, 1, none⟩ = some (.int .i16 ((rd_T66 l0 x39_1).f1)) := (blk_cell BK805.out 1).trans rfl
                   have hfz38_0 := blk_frozen BK805.out 0
                   have hfz38_1 := blk_frozen BK805.out 1
                   have p806 : 0 ≤ ((ji28) : Int) := of_decide_eq_true (by first | (with_reducible assumption) | assumption)
                   have q806 : (ji28) < (t795.length : Int) := of_decide_eq_true (by first | (with_reducible assumption) | assumption)
                   obtain ⟨ad806, A806_0, c806_0, e806, hx806_0, hl806_0, hi806_0⟩ := at_L7 (Kd.S_reads' HO_9.out).2.2 (ji28) p806 q806
                   obtain rfl : ad798 = ad806 := (by injection e806)
                   obtain ⟨ce806, hce806, hMe806, hcc806⟩ := Kd.S_get HO_9.out [] (ji28) p806 (by first | exact q806 | exact of_decide_eq_true (by first | (with_reducible assumption) | assumption) | (have e_ := (Kd.S_reads' HO_9.out).1; omega))
                   obtain ⟨ve806_0, rfl, ge806_0⟩ := hMe806
                   have hv806_0 := hcc806 0 _ rfl
                   rw [Nat.add_zero, show ((Kd.slice 71 k71)).sz = 1 from rfl, Nat.mul_one] at hv806_0
                   replace hv806_0 := Option.some.inj (hv806_0.symm.trans hx806_0)
                   rw [hv806_0] at ge806_0
                   have HL806_0 := Aside0.mk (show Kd.R k71 71 _ _ _ _ (rd_L7 t795 (ji28)) from ge806_0)
                   clear hv806_0 ge806_0
                   clear hcc806 hce806
                   have HR806_0 := Aside0.mk hi806_0
                   have HC806_0 := Aside0.mk hl806_0
                   clear hi806_0 hl806_0
                   replace p806 := eq_true p806
                   replace q806 := eq_true q806
                   have p807 : 0 ≤ ((ji31) : Int) := of_decide_eq_true (by first | (with_reducible assumption) | assumption)
                   have q807 : (ji31) < ((rd_L7 t795 (ji28)).length : Int) := of_decide_eq_true (by first | (with_reducible assumption) | assumption)
                   obtain ⟨ad807, e807, hx807_0, hx807_1⟩ := at_T71 (by repeat (first | (with_reducible exact HR806_0.out) | (with_reducible refine Kd.C_alloc ?_ _) | (with_reducible refine Kd.C_drewN ?_ _) | (with_reducible refine Kd.C_drew ?_) | exact HR806_0.out)) (ji31) p807 q807
                   cases e807
                   replace p807 := eq_true p807
                   replace q807 := eq_true q807
                   go_wp2_with (first | ((with_reducible refine gate_dst (N := 17) rfl ?_); refine box_event ?hg (N := 17) ?hd (cs := #[.int .i64 0, .int .i64 0]) (t := 71) ?hr ?_; (case hd => rfl); (case hg => rfl); (case hr => first | (go_simp; done) | (go_simp; rfl)); intro gb808 hg w39 hbox hb; have n0_ := Aside0.mk (Kd.S_below (Kd.S_elderB (by (with_reducible repeat (first | apply Kd.S_alloc | apply Kd.S_drewN | apply Kd.S_drew)); exact HO_9.out) gb808 (Nat.le_of_eq hg.symm)) hb); have n1_ := Aside0.mk (Kd.R_below (by (with_reducible repeat (first | apply Kd.R_alloc | apply Kd.R_drewN | apply Kd.R_drew)); exact HO_11.out) hb); have n2_ := Aside0.mk (Kd.R_below (Kd.R_elderB (by (with_reducible repeat (first | apply Kd.R_alloc | apply Kd.R_drewN | apply Kd.R_drew)); exact HL806_0.out) gb808 (Nat.le_of_eq hg.symm)) hb); have n3_ := Aside0.mk (blk_below (g := gb800) (o := .cells #[.int .i64 ((rd_T71 (rd_L7 t795 0) (ji6)).f0), .int .i64 ((rd_T71 (rd_L7 t795 0) (ji6)).f1)] 71 (0, 0)) (by (with_reducible repeat (first | refine blk_drewN ?_ _ | refine blk_drew ?_ | refine blk_alloc ?_ _)); exact BK800.out) hb); have n4_ := Aside0.mk (blk_below (g := gb805) (o := .cells #[.int .i8 ((rd_T66 l0 x39_1).f0), .int .i16 ((rd_T66 l0 x39_1).f1)] 66 (0, 0)) (by (with_reducible repeat (first | refine blk_drewN ?_ _ | refine blk_drew ?_ | refine blk_alloc ?_ _)); exact BK805.out) hb); have n5_ := Aside0.mk (Kd.C_below (by repeat (first | (with_reducible exact HR806_0.out) | (with_reducible refine Kd.C_alloc ?_ _) | (with_reducible refine Kd.C_drewN ?_ _) | (with_reducible refine Kd.C_drew ?_) | exact HR806_0.out)) hb); have n6_ := Aside0.mk (below_step (by repeat (first | (with_reducible first | exact HB.out | apply below_alloc | apply pw_below_drewN | apply below_drew1 | refine below_set ?_ GE800.out | refine below_set ?_ GE805.out) | exact HB.out)) hb); have n7_ := Aside0.mk (hbox); have n8_ := Aside0.mk ((by rw [hg]; exact (below_size (by repeat (first | (with_reducible first | exact HB.out | apply below_alloc | apply pw_below_drewN | apply below_drew1 | refine below_set ?_ GE800.out | refine below_set ?_ GE805.out) | exact HB.out))) : w.heap.size ≤ gb808)); have n9_ := Aside0.mk ((by rw [hg]; exact (below_size (by repeat (first | (with_reducible first | exact HB.out | apply below_alloc | apply pw_below_drewN | apply below_drew1 | refine below_set ?_ GE800.out | refine below_set ?_ GE805.out) | exact HB.out))) : w.heap.size ≤ gb808)); have n10_ := Aside0.mk ((by rw [hg]; exact Nat.ne_of_lt (blk_lt (g := gb800) (o := .cells #[.int .i64 ((rd_T71 (rd_L7 t795 0) (ji6)).f0), .int .i64 ((rd_T71 (rd_L7 t795 0) (ji6)).f1)] 71 (0, 0)) (by (with_reducible repeat (first | refine blk_drewN ?_ _ | refine blk_drew ?_ | refine blk_alloc ?_ _)); exact BK800.out)) : gb800 ≠ gb808)); have n11_ := Aside0.mk ((by rw [hg]; exact Nat.ne_of_gt (blk_lt (g := gb800) (o := .cells #[.int .i64 ((rd_T71 (rd_L7 t795 0) (ji6)).f0), .int .i64 ((rd_T71 (rd_L7 t795 0) (ji6)).f1)] 71 (0, 0)) (by (with_reducible repeat (first | refine blk_drewN ?_ _ | refine blk_drew ?_ | refine blk_alloc ?_ _)); exact BK800.out)) : gb808 ≠ gb800)); have n12_ := Aside0.mk ((by rw [hg]; exact Nat.ne_of_lt (blk_lt (g := gb805) (o := .cells #[.int .i8 ((rd_T66 l0 x39_1).f0), .int .i16 ((rd_T66 l0 x39_1).f1)] 66 (0, 0)) (by (with_reducible repeat (first | refine blk_drewN ?_ _ | refine blk_drew ?_ | refine blk_alloc ?_ _)); exact BK805.out)) : gb805 ≠ gb808)); have n13_ := Aside0.mk ((by rw [hg]; exact Nat.ne_of_gt (blk_lt (g := gb805) (o := .cells #[.int .i8 ((rd_T66 l0 x39_1).f0), .int .i16 ((rd_T66 l0 x39_1).f1)] 66 (0, 0)) (by (with_reducible repeat (first | refine blk_drewN ?_ _ | refine blk_drew ?_ | refine blk_alloc ?_ _)); exact BK805.out)) : gb808 ≠ gb805)); clear HO_9; clear HO_11; clear HL806_0; clear BK800; clear BK805; clear HR806_0; clear HB; have HO_9 := n0_; have HO_11 := n1_; have HL806_0 := n2_; have BK800 := n3_; have BK805 := n4_; have HR806_0 := n5_; have HB := n6_; have BK808 := n7_; have GW808 := n8_; have GE808 := n9_; have NB800_808 := n10_; have NB808_800 := n11_; have NB805_808 := n12_; have NB808_805 := n13_; clear n0_ n1_ n2_ n3_ n4_ n5_ n6_ n7_ n8_ n9_ n10_ n11_ n12_ n13_; clear hb hbox hg; have hnb40 := NB808_800.out; have hnc40 := NB800_808.out; have hnb41 := NB808_805.out; have hnc41 := NB805_808.out; have hcz42_0 : w39.cell? ⟨gb808, 0, none⟩ = some (.int .i64 0) := (blk_cell BK808.out 0).trans rfl; have hcz42_1 : w39.cell? ⟨gb808, 1, none⟩ = some (.int .i64 0) := (blk_cell BK808.out 1).trans rfl; have hfz42_0 := blk_frozen BK808.out 0; have hfz42_1 := blk_frozen BK808.out 1) | ((with_reducible refine gate_builtin (b := .append) (xs := #[.tmp 74, .tmp 76]) rfl ?_); at_builtin; refine Kd.R_append (Kd.int .i64) (w0 := w) w.heap.size rfl (.tmp 74) (.tmp 76) 22 2 (.int .i64 0) 8 rfl Try.underlying22 info2 rfl (by decide) (by omega) u11 x11_2 x15_2 [.int .i64 x15_2] (fun _ => True) (fun _ => False) rfl (by first | (go_simp; done) | (go_simp; rfl)) ?aP (fun _ hk => hk.elim) ?aF ?aO ?aB ?aS ?aL ?_; (case aP => exact rfl); (case aB => exact (by repeat (first | (with_reducible first | exact HB.out | apply below_alloc | apply pw_below_drewN | apply below_drew1 | refine below_set ?_ GE800.out | refine below_set ?_ GE805.out | refine below_set ?_ GE808.out) | exact HB.out))); (case aF => exact (fun _ _ => trivial)); (case aO => exact (by (with_reducible repeat (first | apply Kd.R_alloc | apply Kd.R_drewN | apply Kd.R_drew)); exact Kd.R_mono (Kd.R_far (p := ⟨gb808, 1, none⟩) (Kd.R_far (p := ⟨gb808, 0, none⟩) (Kd.R_types HO_11.out BK808.out (by decide)) (fun _ hk => hk.2) (.int .i64 ((rd_T71 (rd_L7 t795 (ji28)) (ji31)).f0))) (fun _ hk => hk.2) (.int .i64 ((rd_T71 (rd_L7 t795 (ji28)) (ji31)).f1))) (fun _ hk => trivial))); (case aS => exact (below_size (by repeat (first | (with_reducible first | exact HB.out | apply below_alloc | apply pw_below_drewN | apply below_drew1 | refine below_set ?_ GE800.out | refine below_set ?_ GE805.out | refine below_set ?_ GE808.out) | exact HB.out)))); (case aL => have := LMc36.out; omega); intro v810 w43 ho hb hg hat; rw [← Ny809.out] at ho; have n0_ := Aside0.mk (Kd.S_over' (by (with_reducible repeat (first | apply Kd.S_alloc | apply Kd.S_drewN | apply Kd.S_drew)); exact (Kd.S_mono (Kd.S_far (p := ⟨gb808, 1, none⟩) (Kd.S_far (p := ⟨gb808, 0, none⟩) (Kd.S_mono HO_9.out (fun k_ hk => (⟨hk, hk.2⟩ : _ ∧ k_ ≠ gb808))) (fun _ hk => hk.2) (.int .i64 ((rd_T71 (rd_L7 t795 (ji28)) (ji31)).f0))) (fun _ hk => hk.2) (.int .i64 ((rd_T71 (rd_L7 t795 (ji28)) (ji31)).f1))) (fun _ h_ => h_.1))) (Kd.R_typed (by (with_reducible repeat (first | apply Kd.R_alloc | apply Kd.R_drewN | apply Kd.R_drew)); exact (Kd.R_mono (Kd.R_far (p := ⟨gb808, 1, none⟩) (Kd.R_far (p := ⟨gb808, 0, none⟩) (Kd.R_types HO_11.out BK808.out (by decide)) (fun _ hk => hk.2) (.int .i64 ((rd_T71 (rd_L7 t795 (ji28)) (ji31)).f0))) (fun _ hk => hk.2) (.int .i64 ((rd_T71 (rd_L7 t795 (ji28)) (ji31)).f1))) (fun _ h_ => h_.1)))) (by decide) hg); have n1_ := Aside0.mk (blk_grown (g := gb800) (o := .cells #[.int .i64 ((rd_T71 (rd_L7 t795 0) (ji6)).f0), .int .i64 ((rd_T71 (rd_L7 t795 0) (ji6)).f1)] 71 (0, 0)) (by (with_reducible repeat (first | refine blk_drewN ?_ _ | refine blk_drew ?_ | refine blk_alloc ?_ _)); refine blk_far ?_ NB800_808.out _; (with_reducible repeat (first | refine blk_drewN ?_ _ | refine blk_drew ?_ | refine blk_alloc ?_ _)); refine blk_far ?_ NB800_808.out _; (with_reducible repeat (first | refine blk_drewN ?_ _ | refine blk_drew ?_ | refine blk_alloc ?_ _)); exact BK800.out) hg (Kd.R_ne HO_11.out BK800.out (by decide))); have n2_ := Aside0.mk (blk_grown (g := gb805) (o := .cells #[.int .i8 ((rd_T66 l0 x39_1).f0), .int .i16 ((rd_T66 l0 x39_1).f1)] 66 (0, 0)) (by (with_reducible repeat (first | refine blk_drewN ?_ _ | refine blk_drew ?_ | refine blk_alloc ?_ _)); refine blk_far ?_ NB805_808.out _; (with_reducible repeat (first | refine blk_drewN ?_ _ | refine blk_drew ?_ | refine blk_alloc ?_ _)); refine blk_far ?_ NB805_808.out _; (with_reducible repeat (first | refine blk_drewN ?_ _ | refine blk_drew ?_ | refine blk_alloc ?_ _)); exact BK805.out) hg (Kd.R_ne HO_11.out BK805.out (by decide))); have n3_ := Aside0.mk (Kd.R_over' (by (with_reducible repeat (first | apply Kd.R_alloc | apply Kd.R_drewN | apply Kd.R_drew)); exact (Kd.R_mono (Kd.R_far (p := ⟨gb808, 1, none⟩) (Kd.R_far (p := ⟨gb808, 0, none⟩) (Kd.R_mono HL806_0.out (fun k_ hk => (⟨hk, hk.2⟩ : _ ∧ k_ ≠ gb808))) (fun _ hk => hk.2) (.int .i64 ((rd_T71 (rd_L7 t795 (ji28)) (ji31)).f0))) (fun _ hk => hk.2) (.int .i64 ((rd_T71 (rd_L7 t795 (ji28)) (ji31)).f1))) (fun _ h_ => h_.1))) (Kd.R_typed (by (with_reducible repeat (first | apply Kd.R_alloc | apply Kd.R_drewN | apply Kd.R_drew)); exact (Kd.R_mono (Kd.R_far (p := ⟨gb808, 1, none⟩) (Kd.R_far (p := ⟨gb808, 0, none⟩) (Kd.R_types HO_11.out BK808.out (by decide)) (fun _ hk => hk.2) (.int .i64 ((rd_T71 (rd_L7 t795 (ji28)) (ji31)).f0))) (fun _ hk => hk.2) (.int .i64 ((rd_T71 (rd_L7 t795 (ji28)) (ji31)).f1))) (fun _ h_ => h_.1)))) (by decide) hg); have n4_ := Aside0.mk (blk_grown (g := gb808) (o := .cells #[.int .i64 ((rd_T71 (rd_L7 t795 (ji28)) (ji31)).f0), .int .i64 ((rd_T71 (rd_L7 t795 (ji28)) (ji31)).f1)] 71 (0, 0)) (by (with_reducible repeat (first | refine blk_drewN ?_ _ | refine blk_drew ?_ | refine blk_alloc ?_ _)); refine blk_put (cs := #[.int .i64 ((rd_T71 (rd_L7 t795 (ji28)) (ji31)).f0), .int .i64 0]) ?_ 1 _ rfl; (with_reducible repeat (first | refine blk_drewN ?_ _ | refine blk_drew ?_ | refine blk_alloc ?_ _)); refine blk_put (cs := #[.int .i64 0, .int .i64 0]) ?_ 0 _ rfl; (with_reducible repeat (first | refine blk_drewN ?_ _ | refine blk_drew ?_ | refine blk_alloc ?_ _)); exact BK808.out) hg (Kd.R_ne HO_11.out BK808.out (by decide))); have n5_ := Aside0.mk (hb); have n6_ := Aside0.mk (ho); clear HO_9; clear BK800; clear BK805; clear HL806_0; clear BK808; clear HB; clear HO_11; have HO_9 := n0_; have BK800 := n1_; have BK805 := n2_; have HL806_0 := n3_; have BK808 := n4_; have HB := n5_; have HO811 := n6_; clear n0_ n1_ n2_ n3_ n4_ n5_ n6_; clear ho hb hg hat))
                   go_roundg k2
                   case measure => have := HK1.out; have := HK2.out; omega
                   case rel => exact ⟨(ji31), (y809), (wrap64 (x12_2 - x15_2)), (ji28), (by first | rfl | (simp; done) | (simp only [← hji31] <;> (first | rfl | simp)) | (simp [*]; done)), (by first | rfl | (simp; done) | (simp [*]; done)), (by first | rfl | (simp; done) | (simp only [← hji28] <;> (first | rfl | simp)) | (simp [*]; done)), H', ⟨by have := HK1.out; have := HK2.out; omega⟩, ⟨by (with_reducible repeat (first | apply Kd.S_alloc | apply Kd.S_drewN | apply Kd.S_drew)); exact Kd.S_mono HO_9.out (fun _ hk => hk.1)⟩, ⟨by (with_reducible repeat (first | apply Kd.R_alloc | apply Kd.R_drewN | apply Kd.R_drew)); exact HO811.out⟩, ⟨by (with_reducible repeat (first | refine blk_drewN ?_ _ | refine blk_drew ?_ | refine blk_alloc ?_ _)); exact BK800.out⟩, ⟨by repeat (first | (with_reducible first | exact HB.out | apply below_alloc | apply pw_below_drewN | apply below_drew1 | refine below_set ?_ GE800.out | refine below_set ?_ GE805.out | refine below_set ?_ GE808.out) | exact HB.out)⟩⟩
                  ·
                   rw [if_neg c36] at H
                   exact absurd H (by simp)
                 ·
                  rw [if_neg c35] at H
                  have c35b0 : ((wrap64 (((rd_T71 (rd_L7 t795 (ji28)) (ji31)).f1) + x15_2)) == x12_2) = false := beq_eq_false_iff_ne.mpr c35
                  have c35b1 : ((wrap64 (((rd_T71 (rd_L7 t795 (ji28)) (ji31)).f1) + x15_2)) != x12_2) = true := bne_iff_ne.mpr c35
                  have H' := Aside0.mk H
                  clear H
                  have hnb44 := NB805_800.out
                  have hnc44 := NB800_805.out
                  have hcz45_0 : wr.cell? ⟨gb805, 0, none⟩ = some (.int .i8 ((rd_T66 l0 x39_1).f0)) := (blk_cell BK805.out 0).trans rfl
                  have hcz45_1 : wr.cell? ⟨gb805, 1, none⟩ = some (.int .i16 ((rd_T66 l0 x39_1).f1)) := (blk_cell BK805.out 1).trans rfl
                  have hfz45_0 := blk_frozen BK805.out 0
                  have hfz45_1 := blk_frozen BK805.out 1
                  have p806 : 0 ≤ ((ji28) : Int) := of_decide_eq_true (by first | (with_reducible assumption) | assumption)
                  have q806 : (ji28) < (t795.length : Int) := of_decide_eq_true (by first | (with_reducible assumption) | assumption)
                  obtain ⟨ad806, A806_0, c806_0, e806, hx806_0, hl806_0, hi806_0⟩ := at_L7 (Kd.S_reads' HO_9.out).2.2 (ji28) p806 q806
                  obtain rfl : ad798 = ad806 := (by injection e806)
                  obtain ⟨ce806, hce806, hMe806, hcc806⟩ := Kd.S_get HO_9.out [] (ji28) p806 (by first | exact q806 | exact of_decide_eq_true (by first | (with_reducible assumption) | assumption) | (have e_ := (Kd.S_reads' HO_9.out).1; omega))
                  obtain ⟨ve806_0, rfl, ge806_0⟩ := hMe806
                  have hv806_0 := hcc806 0 _ rfl
                  rw [Nat.add_zero, show ((Kd.slice 71 k71)).sz = 1 from rfl, Nat.mul_one] at hv806_0
                  replace hv806_0 := Option.some.inj (hv806_0.symm.trans hx806_0)
                  rw [hv806_0] at ge806_0
                  have HL806_0 := Aside0.mk (show Kd.R k71 71 _ _ _ _ (rd_L7 t795 (ji28)) from ge806_0)
                  clear hv806_0 ge806_0
                  clear hcc806 hce806
                  have HR806_0 := Aside0.mk hi806_0
                  have HC806_0 := Aside0.mk hl806_0
                  clear hi806_0 hl806_0
                  replace p806 := eq_true p806
                  replace q806 := eq_true q806
                  have p807 : 0 ≤ ((ji31) : Int) := of_decide_eq_true (by first | (with_reducible assumption) | assumption)
                  have q807 : (ji31) < ((rd_L7 t795 (ji28)).length : Int) := of_decide_eq_true (by first | (with_reducible assumption) | assumption)
                  obtain ⟨ad807, e807, hx807_0, hx807_1⟩ := at_T71 (by repeat (first | (with_reducible exact HR806_0.out) | (with_reducible refine Kd.C_alloc ?_ _) | (with_reducible refine Kd.C_drewN ?_ _) | (with_reducible refine Kd.C_drew ?_) | exact HR806_0.out)) (ji31) p807 q807
                  cases e807
                  replace p807 := eq_true p807
                  replace q807 := eq_true q807
                  go_wp2_with (first | ((with_reducible refine gate_dst (N := 17) rfl ?_); refine box_event ?hg (N := 17) ?hd (cs := #[.int .i64 0, .int .i64 0]) (t := 71) ?hr ?_; (case hd => rfl); (case hg => rfl); (case hr => first | (go_simp; done) | (go_simp; rfl)); intro gb808 hg w46 hbox hb; have n0_ := Aside0.mk (Kd.S_below (Kd.S_elderB (by (with_reducible repeat (first | apply Kd.S_alloc | apply Kd.S_drewN | apply Kd.S_drew)); exact HO_9.out) gb808 (Nat.le_of_eq hg.symm)) hb); have n1_ := Aside0.mk (Kd.R_below (by (with_reducible repeat (first | apply Kd.R_alloc | apply Kd.R_drewN | apply Kd.R_drew)); exact HO_11.out) hb); have n2_ := Aside0.mk (Kd.R_below (Kd.R_elderB (by (with_reducible repeat (first | apply Kd.R_alloc | apply Kd.R_drewN | apply Kd.R_drew)); exact HL806_0.out) gb808 (Nat.le_of_eq hg.symm)) hb); have n3_ := Aside0.mk (blk_below (g := gb800) (o := .cells #[.int .i64 ((rd_T71 (rd_L7 t795 0) (ji6)).f0), .int .i64 ((rd_T71 (rd_L7 t795 0) (ji6)).f1)] 71 (0, 0)) (by (with_reducible repeat (first | refine blk_drewN ?_ _ | refine blk_drew ?_ | refine blk_alloc ?_ _)); exact BK800.out) hb); have n4_ := Aside0.mk (blk_below (g := gb805) (o := .cells #[.int .i8 ((rd_T66 l0 x39_1).f0), .int .i16 ((rd_T66 l0 x39_1).f1)] 66 (0, 0)) (by (with_reducible repeat (first | refine blk_drewN ?_ _ | refine blk_drew ?_ | refine blk_alloc ?_ _)); exact BK805.out) hb); have n5_ := Aside0.mk (Kd.C_below (by repeat (first | (with_reducible exact HR806_0.out) | (with_reducible refine Kd.C_alloc ?_ _) | (with_reducible refine Kd.C_drewN ?_ _) | (with_reducible refine Kd.C_drew ?_) | exact HR806_0.out)) hb); have n6_ := Aside0.mk (below_step (by repeat (first | (with_reducible first | exact HB.out | apply below_alloc | apply pw_below_drewN | apply below_drew1 | refine below_set ?_ GE800.out | refine below_set ?_ GE805.out) | exact HB.out)) hb); have n7_ := Aside0.mk (hbox); have n8_ := Aside0.mk ((by rw [hg]; exact (below_size (by repeat (first | (with_reducible first | exact HB.out | apply below_alloc | apply pw_below_drewN | apply below_drew1 | refine below_set ?_ GE800.out | refine below_set ?_ GE805.out) | exact HB.out))) : w.heap.size ≤ gb808)); have n9_ := Aside0.mk ((by rw [hg]; exact (below_size (by repeat (first | (with_reducible first | exact HB.out | apply below_alloc | apply pw_below_drewN | apply below_drew1 | refine below_set ?_ GE800.out | refine below_set ?_ GE805.out) | exact HB.out))) : w.heap.size ≤ gb808)); have n10_ := Aside0.mk ((by rw [hg]; exact Nat.ne_of_lt (blk_lt (g := gb800) (o := .cells #[.int .i64 ((rd_T71 (rd_L7 t795 0) (ji6)).f0), .int .i64 ((rd_T71 (rd_L7 t795 0) (ji6)).f1)] 71 (0, 0)) (by (with_reducible repeat (first | refine blk_drewN ?_ _ | refine blk_drew ?_ | refine blk_alloc ?_ _)); exact BK800.out)) : gb800 ≠ gb808)); have n11_ := Aside0.mk ((by rw [hg]; exact Nat.ne_of_gt (blk_lt (g := gb800) (o := .cells #[.int .i64 ((rd_T71 (rd_L7 t795 0) (ji6)).f0), .int .i64 ((rd_T71 (rd_L7 t795 0) (ji6)).f1)] 71 (0, 0)) (by (with_reducible repeat (first | refine blk_drewN ?_ _ | refine blk_drew ?_ | refine blk_alloc ?_ _)); exact BK800.out)) : gb808 ≠ gb800)); have n12_ := Aside0.mk ((by rw [hg]; exact Nat.ne_of_lt (blk_lt (g := gb805) (o := .cells #[.int .i8 ((rd_T66 l0 x39_1).f0), .int .i16 ((rd_T66 l0 x39_1).f1)] 66 (0, 0)) (by (with_reducible repeat (first | refine blk_drewN ?_ _ | refine blk_drew ?_ | refine blk_alloc ?_ _)); exact BK805.out)) : gb805 ≠ gb808)); have n13_ := Aside0.mk ((by rw [hg]; exact Nat.ne_of_gt (blk_lt (g := gb805) (o := .cells #[.int .i8 ((rd_T66 l0 x39_1).f0), .int .i16 ((rd_T66 l0 x39_1).f1)] 66 (0, 0)) (by (with_reducible repeat (first | refine blk_drewN ?_ _ | refine blk_drew ?_ | refine blk_alloc ?_ _)); exact BK805.out)) : gb808 ≠ gb805)); clear HO_9; clear HO_11; clear HL806_0; clear BK800; clear BK805; clear HR806_0; clear HB; have HO_9 := n0_; have HO_11 := n1_; have HL806_0 := n2_; have BK800 := n3_; have BK805 := n4_; have HR806_0 := n5_; have HB := n6_; have BK808 := n7_; have GW808 := n8_; have GE808 := n9_; have NB800_808 := n10_; have NB808_800 := n11_; have NB805_808 := n12_; have NB808_805 := n13_; clear n0_ n1_ n2_ n3_ n4_ n5_ n6_ n7_ n8_ n9_ n10_ n11_ n12_ n13_; clear hb hbox hg; have hnb47 := NB808_800.out; have hnc47 := NB800_808.out; have hnb48 := NB808_805.out; have hnc48 := NB805_808.out; have hcz49_0 : w46.cell? ⟨gb808, 0, none⟩ = some (.int .i64 0) := (blk_cell BK808.out 0).trans rfl; have hcz49_1 : w46.cell? ⟨gb808, 1, none⟩ = some (.int .i64 0) := (blk_cell BK808.out 1).trans rfl; have hfz49_0 := blk_frozen BK808.out 0; have hfz49_1 := blk_frozen BK808.out 1))
                  go_roundg k2
                  case measure => have := HK1.out; have := HK2.out; omega
                  case rel => exact ⟨(x1_2), (x11_2), (x12_2), (wrap64 (x15_2 + 1)), (by first | rfl | (simp; done) | (simp [*]; done)), (by first | rfl | (simp; done) | (simp [*]; done)), (by first | rfl | (simp; done) | (simp [*]; done)), H', ⟨by have := HK1.out; have := HK2.out; omega⟩, ⟨by (with_reducible repeat (first | apply Kd.S_alloc | apply Kd.S_drewN | apply Kd.S_drew)); exact Kd.S_mono (Kd.S_far (p := ⟨gb808, 1, none⟩) (Kd.S_far (p := ⟨gb808, 0, none⟩) (Kd.S_mono HO_9.out (fun k_ hk => (⟨hk, hk.2⟩ : _ ∧ k_ ≠ gb808))) (fun _ hk => hk.2) (.int .i64 ((rd_T71 (rd_L7 t795 (ji28)) (ji31)).f0))) (fun _ hk => hk.2) (.int .i64 ((rd_T71 (rd_L7 t795 (ji28)) (ji31)).f1))) (fun _ hk => hk.1.1)⟩, ⟨by (with_reducible repeat (first | apply Kd.R_alloc | apply Kd.R_drewN | apply Kd.R_drew)); exact Kd.R_mono (Kd.R_far (p := ⟨gb808, 1, none⟩) (Kd.R_far (p := ⟨gb808, 0, none⟩) (Kd.R_types HO_11.out BK808.out (by decide)) (fun _ hk => hk.2) (.int .i64 ((rd_T71 (rd_L7 t795 (ji28)) (ji31)).f0))) (fun _ hk => hk.2) (.int .i64 ((rd_T71 (rd_L7 t795 (ji28)) (ji31)).f1))) (fun _ hk => trivial)⟩, ⟨by (with_reducible repeat (first | refine blk_drewN ?_ _ | refine blk_drew ?_ | refine blk_alloc ?_ _)); refine blk_far ?_ NB800_808.out _; (with_reducible repeat (first | refine blk_drewN ?_ _ | refine blk_drew ?_ | refine blk_alloc ?_ _)); refine blk_far ?_ NB800_808.out _; (with_reducible repeat (first | refine blk_drewN ?_ _ | refine blk_drew ?_ | refine blk_alloc ?_ _)); exact BK800.out⟩, ⟨by (with_reducible repeat (first | refine blk_drewN ?_ _ | refine blk_drew ?_ | refine blk_alloc ?_ _)); refine blk_far ?_ NB805_808.out _; (with_reducible repeat (first | refine blk_drewN ?_ _ | refine blk_drew ?_ | refine blk_alloc ?_ _)); refine blk_far ?_ NB805_808.out _; (with_reducible repeat (first | refine blk_drewN ?_ _ | refine blk_drew ?_ | refine blk_alloc ?_ _)); exact BK805.out⟩, ⟨by repeat (first | (with_reducible first | exact HB.out | apply below_alloc | apply pw_below_drewN | apply below_drew1 | refine below_set ?_ GE800.out | refine below_set ?_ GE805.out | refine below_set ?_ GE808.out) | exact HB.out)⟩⟩
                ·
                 rw [if_neg c34] at H
                 have c34b0 : decide (0 < ((rd_T71 (rd_L7 t795 (ji28)) (ji31)).f0)) = false := decide_eq_false c34
                 clear c34
                 have H' := Aside0.mk H
                 clear H
                 have hnb50 := NB805_800.out
                 have hnc50 := NB800_805.out
                 have hcz51_0 : wr.cell? ⟨gb805, 0, none⟩ = some (.int .i8 ((rd_T66 l0 x39_1).f0)) := (blk_cell BK805.out 0).trans rfl
                 have hcz51_1 : wr.cell? ⟨gb805, 1, none⟩ = some (.int .i16 ((rd_T66 l0 x39_1).f1)) := (blk_cell BK805.out 1).trans rfl
                 have hfz51_0 := blk_frozen BK805.out 0
                 have hfz51_1 := blk_frozen BK805.out 1
                 have p806 : 0 ≤ ((ji28) : Int) := of_decide_eq_true (by first | (with_reducible assumption) | assumption)
                 have q806 : (ji28) < (t795.length : Int) := of_decide_eq_true (by first | (with_reducible assumption) | assumption)
                 obtain ⟨ad806, A806_0, c806_0, e806, hx806_0, hl806_0, hi806_0⟩ := at_L7 (Kd.S_reads' HO_9.out).2.2 (ji28) p806 q806
                 obtain rfl : ad798 = ad806 := (by injection e806)
                 obtain ⟨ce806, hce806, hMe806, hcc806⟩ := Kd.S_get HO_9.out [] (ji28) p806 (by first | exact q806 | exact of_decide_eq_true (by first | (with_reducible assumption) | assumption) | (have e_ := (Kd.S_reads' HO_9.out).1; omega))
                 obtain ⟨ve806_0, rfl, ge806_0⟩ := hMe806
                 have hv806_0 := hcc806 0 _ rfl
                 rw [Nat.add_zero, show ((Kd.slice 71 k71)).sz = 1 from rfl, Nat.mul_one] at hv806_0
                 replace hv806_0 := Option.some.inj (hv806_0.symm.trans hx806_0)
                 rw [hv806_0] at ge806_0
                 have HL806_0 := Aside0.mk (show Kd.R k71 71 _ _ _ _ (rd_L7 t795 (ji28)) from ge806_0)
                 clear hv806_0 ge806_0
                 clear hcc806 hce806
                 have HR806_0 := Aside0.mk hi806_0
                 have HC806_0 := Aside0.mk hl806_0
                 clear hi806_0 hl806_0
                 replace p806 := eq_true p806
                 replace q806 := eq_true q806
                 have p807 : 0 ≤ ((ji31) : Int) := of_decide_eq_true (by first | (with_reducible assumption) | assumption)
                 have q807 : (ji31) < ((rd_L7 t795 (ji28)).length : Int) := of_decide_eq_true (by first | (with_reducible assumption) | assumption)
                 obtain ⟨ad807, e807, hx807_0, hx807_1⟩ := at_T71 (by repeat (first | (with_reducible exact HR806_0.out) | (with_reducible refine Kd.C_alloc ?_ _) | (with_reducible refine Kd.C_drewN ?_ _) | (with_reducible refine Kd.C_drew ?_) | exact HR806_0.out)) (ji31) p807 q807
                 cases e807
                 replace p807 := eq_true p807
                 replace q807 := eq_true q807
                 go_wp2_with (first | ((with_reducible refine gate_dst (N := 17) rfl ?_); refine box_event ?hg (N := 17) ?hd (cs := #[.int .i64 0, .int .i64 0]) (t := 71) ?hr ?_; (case hd => rfl); (case hg => rfl); (case hr => first | (go_simp; done) | (go_simp; rfl)); intro gb808 hg w52 hbox hb; have n0_ := Aside0.mk (Kd.S_below (Kd.S_elderB (by (with_reducible repeat (first | apply Kd.S_alloc | apply Kd.S_drewN | apply Kd.S_drew)); exact HO_9.out) gb808 (Nat.le_of_eq hg.symm)) hb); have n1_ := Aside0.mk (Kd.R_below (by (with_reducible repeat (first | apply Kd.R_alloc | apply Kd.R_drewN | apply Kd.R_drew)); exact HO_11.out) hb); have n2_ := Aside0.mk (Kd.R_below (Kd.R_elderB (by (with_reducible repeat (first | apply Kd.R_alloc | apply Kd.R_drewN | apply Kd.R_drew)); exact HL806_0.out) gb808 (Nat.le_of_eq hg.symm)) hb); have n3_ := Aside0.mk (blk_below (g := gb800) (o := .cells #[.int .i64 ((rd_T71 (rd_L7 t795 0) (ji6)).f0), .int .i64 ((rd_T71 (rd_L7 t795 0) (ji6)).f1)] 71 (0, 0)) (by (with_reducible repeat (first | refine blk_drewN ?_ _ | refine blk_drew ?_ | refine blk_alloc ?_ _)); exact BK800.out) hb); have n4_ := Aside0.mk (blk_below (g := gb805) (o := .cells #[.int .i8 ((rd_T66 l0 x39_1).f0), .int .i16 ((rd_T66 l0 x39_1).f1)] 66 (0, 0)) (by (with_reducible repeat (first | refine blk_drewN ?_ _ | refine blk_drew ?_ | refine blk_alloc ?_ _)); exact BK805.out) hb); have n5_ := Aside0.mk (Kd.C_below (by repeat (first | (with_reducible exact HR806_0.out) | (with_reducible refine Kd.C_alloc ?_ _) | (with_reducible refine Kd.C_drewN ?_ _) | (with_reducible refine Kd.C_drew ?_) | exact HR806_0.out)) hb); have n6_ := Aside0.mk (below_step (by repeat (first | (with_reducible first | exact HB.out | apply below_alloc | apply pw_below_drewN | apply below_drew1 | refine below_set ?_ GE800.out | refine below_set ?_ GE805.out) | exact HB.out)) hb); have n7_ := Aside0.mk (hbox); have n8_ := Aside0.mk ((by rw [hg]; exact (below_size (by repeat (first | (with_reducible first | exact HB.out | apply below_alloc | apply pw_below_drewN | apply below_drew1 | refine below_set ?_ GE800.out | refine below_set ?_ GE805.out) | exact HB.out))) : w.heap.size ≤ gb808)); have n9_ := Aside0.mk ((by rw [hg]; exact (below_size (by repeat (first | (with_reducible first | exact HB.out | apply below_alloc | apply pw_below_drewN | apply below_drew1 | refine below_set ?_ GE800.out | refine below_set ?_ GE805.out) | exact HB.out))) : w.heap.size ≤ gb808)); have n10_ := Aside0.mk ((by rw [hg]; exact Nat.ne_of_lt (blk_lt (g := gb800) (o := .cells #[.int .i64 ((rd_T71 (rd_L7 t795 0) (ji6)).f0), .int .i64 ((rd_T71 (rd_L7 t795 0) (ji6)).f1)] 71 (0, 0)) (by (with_reducible repeat (first | refine blk_drewN ?_ _ | refine blk_drew ?_ | refine blk_alloc ?_ _)); exact BK800.out)) : gb800 ≠ gb808)); have n11_ := Aside0.mk ((by rw [hg]; exact Nat.ne_of_gt (blk_lt (g := gb800) (o := .cells #[.int .i64 ((rd_T71 (rd_L7 t795 0) (ji6)).f0), .int .i64 ((rd_T71 (rd_L7 t795 0) (ji6)).f1)] 71 (0, 0)) (by (with_reducible repeat (first | refine blk_drewN ?_ _ | refine blk_drew ?_ | refine blk_alloc ?_ _)); exact BK800.out)) : gb808 ≠ gb800)); have n12_ := Aside0.mk ((by rw [hg]; exact Nat.ne_of_lt (blk_lt (g := gb805) (o := .cells #[.int .i8 ((rd_T66 l0 x39_1).f0), .int .i16 ((rd_T66 l0 x39_1).f1)] 66 (0, 0)) (by (with_reducible repeat (first | refine blk_drewN ?_ _ | refine blk_drew ?_ | refine blk_alloc ?_ _)); exact BK805.out)) : gb805 ≠ gb808)); have n13_ := Aside0.mk ((by rw [hg]; exact Nat.ne_of_gt (blk_lt (g := gb805) (o := .cells #[.int .i8 ((rd_T66 l0 x39_1).f0), .int .i16 ((rd_T66 l0 x39_1).f1)] 66 (0, 0)) (by (with_reducible repeat (first | refine blk_drewN ?_ _ | refine blk_drew ?_ | refine blk_alloc ?_ _)); exact BK805.out)) : gb808 ≠ gb805)); clear HO_9; clear HO_11; clear HL806_0; clear BK800; clear BK805; clear HR806_0; clear HB; have HO_9 := n0_; have HO_11 := n1_; have HL806_0 := n2_; have BK800 := n3_; have BK805 := n4_; have HR806_0 := n5_; have HB := n6_; have BK808 := n7_; have GW808 := n8_; have GE808 := n9_; have NB800_808 := n10_; have NB808_800 := n11_; have NB805_808 := n12_; have NB808_805 := n13_; clear n0_ n1_ n2_ n3_ n4_ n5_ n6_ n7_ n8_ n9_ n10_ n11_ n12_ n13_; clear hb hbox hg; have hnb53 := NB808_800.out; have hnc53 := NB800_808.out; have hnb54 := NB808_805.out; have hnc54 := NB805_808.out; have hcz55_0 : w52.cell? ⟨gb808, 0, none⟩ = some (.int .i64 0) := (blk_cell BK808.out 0).trans rfl; have hcz55_1 : w52.cell? ⟨gb808, 1, none⟩ = some (.int .i64 0) := (blk_cell BK808.out 1).trans rfl; have hfz55_0 := blk_frozen BK808.out 0; have hfz55_1 := blk_frozen BK808.out 1))
                 go_roundg k2
                 case measure => have := HK1.out; have := HK2.out; omega
                 case rel => exact ⟨(x1_2), (x11_2), (x12_2), (wrap64 (x15_2 + 1)), (by first | rfl | (simp; done) | (simp [*]; done)), (by first | rfl | (simp; done) | (simp [*]; done)), (by first | rfl | (simp; done) | (simp [*]; done)), H', ⟨by have := HK1.out; have := HK2.out; omega⟩, ⟨by (with_reducible repeat (first | apply Kd.S_alloc | apply Kd.S_drewN | apply Kd.S_drew)); exact Kd.S_mono (Kd.S_far (p := ⟨gb808, 1, none⟩) (Kd.S_far (p := ⟨gb808, 0, none⟩) (Kd.S_mono HO_9.out (fun k_ hk => (⟨hk, hk.2⟩ : _ ∧ k_ ≠ gb808))) (fun _ hk => hk.2) (.int .i64 ((rd_T71 (rd_L7 t795 (ji28)) (ji31)).f0))) (fun _ hk => hk.2) (.int .i64 ((rd_T71 (rd_L7 t795 (ji28)) (ji31)).f1))) (fun _ hk => hk.1.1)⟩, ⟨by (with_reducible repeat (first | apply Kd.R_alloc | apply Kd.R_drewN | apply Kd.R_drew)); exact Kd.R_mono (Kd.R_far (p := ⟨gb808, 1, none⟩) (Kd.R_far (p := ⟨gb808, 0, none⟩) (Kd.R_types HO_11.out BK808.out (by decide)) (fun _ hk => hk.2) (.int .i64 ((rd_T71 (rd_L7 t795 (ji28)) (ji31)).f0))) (fun _ hk => hk.2) (.int .i64 ((rd_T71 (rd_L7 t795 (ji28)) (ji31)).f1))) (fun _ hk => trivial)⟩, ⟨by (with_reducible repeat (first | refine blk_drewN ?_ _ | refine blk_drew ?_ | refine blk_alloc ?_ _)); refine blk_far ?_ NB800_808.out _; (with_reducible repeat (first | refine blk_drewN ?_ _ | refine blk_drew ?_ | refine blk_alloc ?_ _)); refine blk_far ?_ NB800_808.out _; (with_reducible repeat (first | refine blk_drewN ?_ _ | refine blk_drew ?_ | refine blk_alloc ?_ _)); exact BK800.out⟩, ⟨by (with_reducible repeat (first | refine blk_drewN ?_ _ | refine blk_drew ?_ | refine blk_alloc ?_ _)); refine blk_far ?_ NB805_808.out _; (with_reducible repeat (first | refine blk_drewN ?_ _ | refine blk_drew ?_ | refine blk_alloc ?_ _)); refine blk_far ?_ NB805_808.out _; (with_reducible repeat (first | refine blk_drewN ?_ _ | refine blk_drew ?_ | refine blk_alloc ?_ _)); exact BK805.out⟩, ⟨by repeat (first | (with_reducible first | exact HB.out | apply below_alloc | apply pw_below_drewN | apply below_drew1 | refine below_set ?_ GE800.out | refine below_set ?_ GE805.out | refine below_set ?_ GE808.out) | exact HB.out)⟩⟩
               ·
                rw [if_neg c33] at H
                exact absurd H (by simp)
              ·
               rw [if_neg c32] at H
               exact absurd H (by simp)
             ·
              rw [if_neg c30] at H
              exact absurd H (by simp)
            ·
             rw [if_neg c29] at H
             exact absurd H (by simp)
         ·
          rw [if_neg c24] at H
          exact absurd H (by simp)
        ·
         rw [if_neg c23] at H
         exact absurd H (by simp)
       ·
        rw [if_neg c22] at H
        have c22b0 : decide (x39_1 < (l0.length : Int)) = false := decide_eq_false c22
        clear c22
        simp only [Option.some.injEq, Prod.mk.injEq] at H
        obtain ⟨rfl, rfl, rfl⟩ := H
        try go_wp2
        have n0_ := Aside0.mk (Kd.S_drew HO_9.out)
        have n1_ := Aside0.mk (Kd.R_drew HO_11.out)
        have n2_ := Aside0.mk (blk_drew BK800.out)
        have n3_ := Aside0.mk (below_drew1 HB.out)
        clear HO_9
        clear HO_11
        clear BK800
        clear HB
        have HO_9 := n0_
        have HO_11 := n1_
        have BK800 := n2_
        have HB := n3_
        clear n0_ n1_ n2_ n3_
        refine start_ (n := 6) (S := fun w' => w'.cell? ⟨gb800, 0, none⟩ = some (.int .i64 ((rd_T71 (rd_L7 t795 0) (ji6)).f0)) ∧ w'.cell? ⟨gb800, 1, none⟩ = some (.int .i64 ((rd_T71 (rd_L7 t795 0) (ji6)).f1))) (ds := []) #[false, false, false, false, false, false] (by kernel_rfl) rfl rfl ⟨(blk_cell BK800.out 0).trans rfl, (blk_cell BK800.out 1).trans rfl⟩ (fun hHeld => ?_)
        generalize wr.drew = w56 at HO_9 HO_11 BK800 HB hHeld ⊢
        refine pure_ (i := 0) (N := some 83) (v := ?_) (a' := ?_) #[true, false, false, false, false, false] rfl rfl (by kernel_rfl) (fun _ _ _ h => h) (Or.inl ⟨by rfl, ?_⟩) ?_ ?_
        rotate_left
        ·
         intro w'
         go_simp
         with_reducible rfl
        rotate_left
        ·
         simp only [Act.put, List.setIfInBounds_toArray, List.set_cons_zero, List.set_cons_succ, i64_w, i32_w]
         rfl
        refine pure_ (i := 1) (N := some 84) (v := ?_) (a' := ?_) #[true, true, false, false, false, false] rfl rfl (by kernel_rfl) (fun _ _ _ h => h) (Or.inl ⟨by rfl, ?_⟩) ?_ ?_
        rotate_left
        ·
         intro w'
         go_simp
         with_reducible rfl
        rotate_left
        ·
         simp only [Act.put, List.setIfInBounds_toArray, List.set_cons_zero, List.set_cons_succ, i64_w, i32_w]
         rfl
        refine pure_ (i := 3) (N := some 6) (v := ?_) (a' := ?_) #[true, true, false, true, false, false] rfl rfl (by kernel_rfl) (fun _ _ _ h => h) (Or.inl ⟨by rfl, ?_⟩) ?_ ?_
        rotate_left
        ·
         intro w'
         go_simp
         with_reducible rfl
        rotate_left
        ·
         simp only [Act.put, List.setIfInBounds_toArray, List.set_cons_zero, List.set_cons_succ, i64_w, i32_w]
         rfl
        refine take_ (i := 2) (N := some 85) (v := ?_) (a' := ?_) #[true, true, true, true, false, false] rfl rfl (by kernel_rfl) (fun _ _ _ h => h) (Or.inl ⟨by rfl, ?_⟩) hHeld ?_ ?_
        rotate_left
        ·
         rintro w' ⟨s0, s1⟩
         go_simp
         with_reducible rfl
        rotate_left
        ·
         simp only [Act.put, List.setIfInBounds_toArray, List.set_cons_zero, List.set_cons_succ, i64_w, i32_w]
         rfl
        refine pure_ (i := 4) (N := some 7) (v := ?_) (a' := ?_) #[true, true, true, true, true, false] rfl rfl (by kernel_rfl) (fun _ _ _ h => h) (Or.inl ⟨by rfl, ?_⟩) ?_ ?_
        rotate_left
        ·
         intro w'
         go_simp
         with_reducible rfl
        rotate_left
        ·
         simp only [Act.put, List.setIfInBounds_toArray, List.set_cons_zero, List.set_cons_succ, i64_w, i32_w]
         rfl
        refine pure_ (i := 5) (N := some 8) (v := ?_) (a' := ?_) #[true, true, true, true, true, true] rfl rfl (by kernel_rfl) (fun _ _ _ h => h) (Or.inl ⟨by rfl, ?_⟩) ?_ ?_
        rotate_left
        ·
         intro w'
         go_simp
         with_reducible rfl
        rotate_left
        ·
         simp only [Act.put, List.setIfInBounds_toArray, List.set_cons_zero, List.set_cons_succ, i64_w, i32_w]
         rfl
        refine done_ (by kernel_rfl) ?_
        try go_wp2
        go_ret3
        exact ⟨_, by first | rfl | (simp [errW_none, errW_some] <;> rfl) | (simp only [← hji6]; first | rfl | (simp [errW_none, errW_some] <;> rfl)) | (simp [*, errW_none, errW_some] <;> rfl), by (with_reducible repeat (first | apply Kd.R_alloc | apply Kd.R_drewN | apply Kd.R_drew)); exact HO_11.out, by repeat (first | (with_reducible first | exact HB.out | apply below_alloc | apply pw_below_drewN | apply below_drew1 | refine below_set ?_ GE800.out) | exact HB.out)⟩
   ·
    rw [if_neg c8] at H
    exact absurd H (by simp)
  ·
   rw [if_neg c7] at H
   exact absurd H (by simp)
 ·
  rw [if_neg c5] at H
  exact absurd H (by simp)
end Go.Proofs.Ytabooaeobpgadaa.Q
