-- By a program of this session's: of the print's words what this claim needs. Lean checks it.
import Derived.Test.YtanpafadehnhlaaXQ0
import Derived.Test.YtanpafadehnhlaaXQ6
import Derived.Test.YtanpafadehnhlaaXQ7
namespace Go.Proofs.Ytanpafadehnhlaa.Q
open Go.RowKit Go.Proofs.YtanpafadehnhlaaW.PrintWords Go.Proofs.YtanpafadehnhlaaW.PrintLast Go.Proofs.YtanpafadehnhlaaW.PrintMore
attribute [local go_sem] max2_int min2_int max_two min_two max_three min_three max_four min_four
set_option linter.unusedVariables false
set_option linter.unusedSimpArgs false
def spec_l01Place.l0 : Nat → List (S30) → Int → Int → List (S46) → Int → Option (Int × Int × Int × Int × Bool)
 | 0, _, _, _, _, _ => none
 | k + 1, x0, x1, x2, x8, x9 => if x9 < (x8.length : Int) then (if 0 ≤ x9 then ((spec_l01Can.f k x0 ((rd_T46 x8 x9).f0) ((rd_T46 x8 x9).f1) (IntKind.i8.wrap (x1)) (IntKind.i8.wrap (x2))).bind fun t185 => (if t185 = true then (some ((rd_T46 x8 x9).f0, (rd_T46 x8 x9).f1, IntKind.i8.wrap (x1), IntKind.i8.wrap (x2), true)) else (spec_l01Place.l0 k x0 x1 x2 x8 (wrap64 (x9 + 1))))) else (none)) else (some (0, 0, 0, 0, false))
def spec_l01Place.f (k : Nat) (l0 : List (S30)) (a1 : Int) (a2 : Int) : Option (Int × Int × Int × Int × Bool) := (spec_l01All.f k l0).bind fun t179 => (spec_l01Place.l0 k l0 a1 a2 t179 0)
theorem spec_l01Place.mono_l : ∀ k, (∀ y0 y1 y2 y3 y4, LeO (spec_l01Place.l0 k y0 y1 y2 y3 y4) (spec_l01Place.l0 (k + 1) y0 y1 y2 y3 y4))
 | 0 => fun _ _ _ _ _ r h => by simp [spec_l01Place.l0] at h
 | k + 1 => by
  have ih0 := spec_l01Place.mono_l k
  ·
   intro y0 y1 y2 y3 y4
   unfold spec_l01Place.l0
   repeat' first
   | (with_reducible exact ih0 _ _ _ _ _)
   | (with_reducible exact spec_l01All.mono _ _)
   | (with_reducible exact spec_l01Can.mono _ _ _ _ _ _)
   | (with_reducible exact LeO.refl _)
   | (with_reducible exact LeO.none _)
   | (with_reducible refine LeO.ite ?_ ?_)
   | (with_reducible refine LeO.bind ?_ (fun _ => ?_))
   | exact ih0 _ _ _ _ _
   | exact spec_l01All.mono _ _
   | exact spec_l01Can.mono _ _ _ _ _ _
   | exact LeO.none _
   | refine LeO.ite ?_ ?_
   | refine LeO.bind ?_ (fun _ => ?_)
theorem spec_l01Place.mono : ∀ a0 a1 a2 k, LeO (spec_l01Place.f k a0 a1 a2) (spec_l01Place.f (k + 1) a0 a1 a2) := by
 intro a0 a1 a2 k; have ih0 := spec_l01Place.mono_l k
 unfold spec_l01Place.f
 repeat' first
   | (with_reducible exact ih0 _ _ _ _ _)
   | (with_reducible exact spec_l01All.mono _ _)
   | (with_reducible exact spec_l01Can.mono _ _ _ _ _ _)
   | (with_reducible exact LeO.refl _)
   | (with_reducible exact LeO.none _)
   | (with_reducible refine LeO.ite ?_ ?_)
   | (with_reducible refine LeO.bind ?_ (fun _ => ?_))
   | exact ih0 _ _ _ _ _
   | exact spec_l01All.mono _ _
   | exact spec_l01Can.mono _ _ _ _ _ _
   | exact LeO.none _
   | refine LeO.ite ?_ ?_
   | refine LeO.bind ?_ (fun _ => ?_)
def spec_l01Place.T5 : Bool × List (List Nat × List Nat) := (true, [([], []), ([], []), ([0, 1], [0, 1]), ([2], [2]), ([3], [3]), ([], []), ([], []), ([5, 6], [5, 6]), ([7], [7]), ([8], [8]), ([], []), ([10], [10]), ([], []), ([12], [12]), ([4, 9, 11, 13], [4, 9, 11, 13]), ([], []), ([15, 14, 0, 1, 2, 3, 4, 5, 6, 7, 8, 9, 10, 11, 12, 13, 14, 15], [14, 15])])
def spec_l01Place.B5 : List Nat := [0, 0, 3, 7, 15, 0, 0, 96, 224, 480, 0, 1024, 0, 4096, 16383, 0, 65535]
theorem spec_l01Place.tab5 : rtab .any (opsOf Try.f59 5) = spec_l01Place.T5 := by kernel_rfl
theorem spec_l01Place.bits5 : waitsOk spec_l01Place.T5.2 spec_l01Place.B5 = true := by kernel_rfl
set_option maxHeartbeats 8000000 in
set_option maxRecDepth 100000 in
theorem spec_l01Place.calls (k : Nat) (A0 : Option Addr) (c0 : Nat) (l0 : List (S30)) (a1 : Int) (a2 : Int) (r1 : Int) (r2 : Int) (r3 : Int) (r4 : Int) (r5 : Bool) (w : World) (hr0 : Kd.C k30 w A0 l0.length l0) (hc0 : l0.length ≤ c0) (h : spec_l01Place.f k l0 a1 a2 = some (r1, r2, r3, r4, r5)) :
  Calls Try.prog 59 #[.pointer A0, .int .i64 a1, .int .i64 a2] w fun e w' => e = .returned (.tuple #[.agg #[.int .i8 r1, .int .i8 r2, .int .i8 r3, .int .i8 r4], .bool r5]) ∧ Below w.heap.size w w' := by
 have hu38 := Try.underlying38; have HR0 := am_ hr0; have HC0 := am_ hc0; clear hr0 hc0; have HB := am_ (Below.refl w.heap.size w); have H : ((spec_l01All.f k l0).bind fun t179 => (spec_l01Place.l0 k l0 a1 a2 t179 0)) = some (r1, r2, r3, r4, r5) := h; clear h; replace H := Option.bind_eq_some_iff.mp H; obtain ⟨t179, A40, H⟩ := H; replace H : (spec_l01Place.l0 k l0 a1 a2 t179 0) = some (r1, r2, r3, r4, r5) := H; have A4 := am_ A40; clear A40; have H' := am_ H; clear H
 go_enter Try.func59, Try.ntmps59
 go_wp2_with (first | ((with_reducible refine gate_dst (N := 6) rfl ?_); refine box_event ?hg (N := 6) ?hd (cs := #[.int .i8 0, .int .i8 0, .int .i8 0, .int .i8 0]) (t := 38) ?hr ?_; (case hd => rfl); (case hg => rfl); (case hr => first | (go_simp; done) | (go_simp; rfl)); intro gb178 hg w5 hbox hb; have n0_ := am_ (bT_ (by repeat (first | (with_reducible first | exact HB.out | apply bA_ | apply bN_ | apply bD_) | exact HB.out)) hb); have n1_ := am_ (hbox); have n2_ := am_ ((by rw [hg]; exact (below_size (by repeat (first | (with_reducible first | exact HB.out | apply bA_ | apply bN_ | apply bD_) | exact HB.out))) : w.heap.size ≤ gb178)); have n3_ := n2_; clear HB; have HB := n0_; have BK178 := n1_; have GW178 := n2_; have GE178 := n3_; clear n0_ n1_ n2_ n3_; clear hb hbox hg) | ((with_reducible refine gate_callee (f := 70) rfl ?_); refine goesL_ (some 12) rfl rfl Try.func70 (by kernel_rfl) rfl #[.pointer A0] rfl (by (try simp only [List.map_toArray, List.map_cons, List.map_nil]); first | done | rfl | (simp only [List.length_drop, List.length_take]; rfl)) ?_; (with_reducible refine (spec_l01All.calls k _ c0 l0 t179 _ ?side1 ?side2 A4.out).mono ?_); (case side1 => repeat (first | exact (Kd.C_below HR0.out HB.out) | (with_reducible refine Kd.C_alloc ?_ _) | (with_reducible refine Kd.C_drewN ?_ _) | (with_reducible refine Kd.C_drew ?_))); (case side2 => exact HC0.out); rintro e w6 ⟨v180, rfl, ho0, hb⟩; refine ⟨_, rfl, ?_⟩; have n0_ := am_ (Kd.R_lower ho0 (below_size (by repeat (first | (with_reducible first | exact HB.out | apply bA_ | apply bN_ | apply bD_ | refine bS_ ?_ GE178.out) | exact HB.out)))); have n1_ := am_ (blk_below (g := gb178) (o := .cells #[.int .i8 0, .int .i8 0, .int .i8 0, .int .i8 0] 38 (0, 0)) (by (with_reducible repeat (first | apply kN_ | apply kD_ | apply kA_)); exact BK178.out) hb); have n2_ := am_ (bT_ (by repeat (first | (with_reducible first | exact HB.out | apply bA_ | apply bN_ | apply bD_ | refine bS_ ?_ GE178.out) | exact HB.out)) hb); clear BK178; clear HB; have HO181 := n0_; have BK178 := n1_; have HB := n2_; clear n0_ n1_ n2_; (try clear hb); (try clear hb2); (try clear hk); (try clear hi); (try clear ho0)))
 go_loopg [9] k (fun kq v9 w' => ∃ (x9_1 : Int) (x179000_1 : Int) (x179001_1 : Int) (x179002_1 : Int) (x179003_1 : Int), v9 = .int .i64 x9_1 ∧ Aside0 (spec_l01Place.l0 kq l0 a1 a2 t179 x9_1 = some (r1, r2, r3, r4, r5)) ∧ Aside0 (kq ≤ k) ∧ Aside0 (Kd.R k46 46 w' w.heap.size (fun _ => True) v180 t179) ∧ Aside0 (w'.heap[gb178]? = some (.cells #[.int .i8 x179000_1, .int .i8 x179001_1, .int .i8 x179002_1, .int .i8 x179003_1] 38 (0, 0))) ∧ Aside0 (Below w.heap.size w w'))
 case atStart => exact ⟨(0), (0), (0), (0), (0), (by first | rfl | (simp; done) | (simp [*]; done)), H', ⟨Nat.le_refl _⟩, ⟨by (with_reducible repeat (first | apply Kd.R_alloc | apply Kd.R_drewN | apply Kd.R_drew)); exact HO181.out⟩, ⟨by (with_reducible repeat (first | apply kN_ | apply kD_ | apply kA_)); exact BK178.out⟩, ⟨by repeat (first | (with_reducible first | exact HB.out | apply bA_ | apply bN_ | apply bD_ | refine bS_ ?_ GE178.out) | exact HB.out)⟩⟩
 case round =>
  clear H'; (try clear p2); (try clear c5); obtain ⟨x9_1, x179000_1, x179001_1, x179002_1, x179003_1, rfl, HA, HK1, HO_8, BK178, HB⟩ := hrel
  cases gk with
  | zero => exact absurd HA.out (by simp [spec_l01Place.l0])
  | succ k1 =>
   have H := HA.out; clear HA; simp only [spec_l01Place.l0] at H
   by_cases c7 : x9_1 < (t179.length : Int)
   ·
    rw [if_pos c7] at H; have c7b0 : decide (x9_1 < (t179.length : Int)) = true := decide_eq_true c7; clear c7
    by_cases c8 : 0 ≤ x9_1
    ·
     rw [if_pos c8] at H; have c8b0 : decide (0 ≤ x9_1) = true := decide_eq_true c8; clear c8; replace H := Option.bind_eq_some_iff.mp H; obtain ⟨t185, A90, H⟩ := H; replace H : (if t185 = true then (some ((rd_T46 t179 x9_1).f0, (rd_T46 t179 x9_1).f1, IntKind.i8.wrap (a1), IntKind.i8.wrap (a2), true)) else (spec_l01Place.l0 k1 l0 a1 a2 t179 (wrap64 (x9_1 + 1)))) = some (r1, r2, r3, r4, r5) := H; have A9 := am_ A90; clear A90
     by_cases c10 : t185 = true
     ·
      subst c10; have H1 : (some ((rd_T46 t179 x9_1).f0, (rd_T46 t179 x9_1).f1, IntKind.i8.wrap (a1), IntKind.i8.wrap (a2), true)) = some (r1, r2, r3, r4, r5) := by rw [if_pos rfl] at H; exact H
      clear H; have H := H1; clear H1; simp only [Option.some.injEq, Prod.mk.injEq] at H; obtain ⟨rfl, rfl, rfl, rfl, rfl⟩ := H; obtain ⟨Ao11, co11, eo11⟩ := Kd.R_slice HO_8.out; subst eo11
      try go_wp2
      have n0_ := am_ (Kd.R_drew HO_8.out); have n1_ := am_ (kD_ BK178.out); have n2_ := am_ (bD_ HB.out); clear HO_8; clear BK178; clear HB; have HO_8 := n0_; have BK178 := n1_; have HB := n2_; clear n0_ n1_ n2_; have p182 : 0 ≤ (x9_1 : Int) := od_ (by first | (with_reducible assumption) | assumption); have q182 : x9_1 < (t179.length : Int) := od_ (by first | (with_reducible assumption) | assumption); obtain ⟨ad182, e182, hx182_0, hx182_1⟩ := at_T46 (Kd.R_reads' HO_8.out).2.2 x9_1 p182 q182
      cases e182
      replace p182 := eq_true p182; replace q182 := eq_true q182; have p183 : 0 ≤ (x9_1 : Int) := od_ (by first | (with_reducible assumption) | assumption); have q183 : x9_1 < (t179.length : Int) := od_ (by first | (with_reducible assumption) | assumption); obtain ⟨ad183, e183, hx183_0, hx183_1⟩ := at_T46 (Kd.R_reads' HO_8.out).2.2 x9_1 p183 q183; obtain rfl : ad182 = ad183 := (by injection e183)
      replace p183 := eq_true p183; replace q183 := eq_true q183; refine start_ (n := 17) (S := fun w' => w'.cell? (ad182.add ((x9_1).toNat * 2)) = some (.int .i8 ((rd_T46 t179 x9_1).f0)) ∧ w'.cell? ⟨(ad182.add ((x9_1).toNat * 2)).block, (ad182.add ((x9_1).toNat * 2)).off + 1, none⟩ = some (.int .i8 ((rd_T46 t179 x9_1).f1)) ∧ w'.cell? (ad182.add ((x9_1).toNat * 2)) = some (.int .i8 ((rd_T46 t179 x9_1).f0)) ∧ w'.cell? ⟨(ad182.add ((x9_1).toNat * 2)).block, (ad182.add ((x9_1).toNat * 2)).off + 1, none⟩ = some (.int .i8 ((rd_T46 t179 x9_1).f1))) (ds := []) (mB_ 17 0) (by kernel_rfl) rfl rfl ⟨hx182_0, hx182_1, hx183_0, hx183_1⟩ (fun hHeld => ?_); refine with_tabW spec_l01Place.tab5 spec_l01Place.bits5 (fun HT_ HW_ => ?_); generalize wr.drew = w12 at HO_8 BK178 HB hx182_0 hx182_1 hx183_0 hx183_1 hHeld ⊢; refine pure_ (i := 0) (N := some 19) (v := ?_) (a' := ?_) (mB_ 17 1) rfl rfl (any_of HT_.out (by kernel_rfl)) (fun _ _ _ h => h) (Or.inl ⟨by rfl, ?_⟩) ?_ ?_; rotate_left
      ·
       intro w'
       go_simp
       with_reducible rfl
      rotate_left
      ·
       simp only [Act.put, z1_, z2_, z3_, i64_w, i32_w]
       rfl
      refine pure_ (i := 1) (N := some 20) (v := ?_) (a' := ?_) (mB_ 17 3) rfl rfl (any_of HT_.out (by kernel_rfl)) (fun _ _ _ h => h) (Or.inl ⟨by rfl, ?_⟩) ?_ ?_; rotate_left
      ·
       intro w'
       go_simp
       with_reducible rfl
      rotate_left
      ·
       simp only [Act.put, z1_, z2_, z3_, i64_w, i32_w]
       rfl
      refine pure_ (i := 2) (N := some 21) (v := ?_) (a' := ?_) (mB_ 17 7) rfl rfl (any_of HT_.out (by kernel_rfl)) (fun _ _ _ h => h) (Or.inl ⟨by rfl, ?_⟩) ?_ ?_; rotate_left
      ·
       intro w'
       go_simp
       with_reducible rfl
      rotate_left
      ·
       simp only [Act.put, z1_, z2_, z3_, i64_w, i32_w]
       rfl
      refine pure_ (i := 3) (N := some 22) (v := ?_) (a' := ?_) (mB_ 17 15) rfl rfl (any_of HT_.out (by kernel_rfl)) (fun _ _ _ h => h) (Or.inl ⟨by rfl, ?_⟩) ?_ ?_; rotate_left
      ·
       intro w'
       go_simp
       with_reducible rfl
      rotate_left
      ·
       simp only [Act.put, z1_, z2_, z3_, i64_w, i32_w]
       rfl
      refine pure_ (i := 5) (N := some 24) (v := ?_) (a' := ?_) (mB_ 17 47) rfl rfl (any_of HT_.out (by kernel_rfl)) (fun _ _ _ h => h) (Or.inl ⟨by rfl, ?_⟩) ?_ ?_; rotate_left
      ·
       intro w'
       go_simp
       with_reducible rfl
      rotate_left
      ·
       simp only [Act.put, z1_, z2_, z3_, i64_w, i32_w]
       rfl
      refine pure_ (i := 6) (N := some 25) (v := ?_) (a' := ?_) (mB_ 17 111) rfl rfl (any_of HT_.out (by kernel_rfl)) (fun _ _ _ h => h) (Or.inl ⟨by rfl, ?_⟩) ?_ ?_; rotate_left
      ·
       intro w'
       go_simp
       with_reducible rfl
      rotate_left
      ·
       simp only [Act.put, z1_, z2_, z3_, i64_w, i32_w]
       rfl
      refine pure_ (i := 7) (N := some 26) (v := ?_) (a' := ?_) (mB_ 17 239) rfl rfl (any_of HT_.out (by kernel_rfl)) (fun _ _ _ h => h) (Or.inl ⟨by rfl, ?_⟩) ?_ ?_; rotate_left
      ·
       intro w'
       go_simp
       with_reducible rfl
      rotate_left
      ·
       simp only [Act.put, z1_, z2_, z3_, i64_w, i32_w]
       rfl
      refine pure_ (i := 8) (N := some 27) (v := ?_) (a' := ?_) (mB_ 17 495) rfl rfl (any_of HT_.out (by kernel_rfl)) (fun _ _ _ h => h) (Or.inl ⟨by rfl, ?_⟩) ?_ ?_; rotate_left
      ·
       intro w'
       go_simp
       with_reducible rfl
      rotate_left
      ·
       simp only [Act.put, z1_, z2_, z3_, i64_w, i32_w]
       rfl
      refine pure_ (i := 10) (N := some 29) (v := ?_) (a' := ?_) (mB_ 17 1519) rfl rfl (any_of HT_.out (by kernel_rfl)) (fun _ _ _ h => h) (Or.inl ⟨by rfl, ?_⟩) ?_ ?_; rotate_left
      ·
       intro w'
       go_simp
       with_reducible rfl
      rotate_left
      ·
       simp only [Act.put, z1_, z2_, z3_, i64_w, i32_w]
       rfl
      refine pure_ (i := 11) (N := some 30) (v := ?_) (a' := ?_) (mB_ 17 3567) rfl rfl (any_of HT_.out (by kernel_rfl)) (fun _ _ _ h => h) (Or.inl ⟨by rfl, ?_⟩) ?_ ?_; rotate_left
      ·
       intro w'
       go_simp
       with_reducible rfl
      rotate_left
      ·
       simp only [Act.put, z1_, z2_, z3_, i64_w, i32_w]
       rfl
      refine pure_ (i := 12) (N := some 31) (v := ?_) (a' := ?_) (mB_ 17 7663) rfl rfl (any_of HT_.out (by kernel_rfl)) (fun _ _ _ h => h) (Or.inl ⟨by rfl, ?_⟩) ?_ ?_; rotate_left
      ·
       intro w'
       go_simp
       with_reducible rfl
      rotate_left
      ·
       simp only [Act.put, z1_, z2_, z3_, i64_w, i32_w]
       rfl
      refine pure_ (i := 13) (N := some 32) (v := ?_) (a' := ?_) (mB_ 17 15855) rfl rfl (any_of HT_.out (by kernel_rfl)) (fun _ _ _ h => h) (Or.inl ⟨by rfl, ?_⟩) ?_ ?_; rotate_left
      ·
       intro w'
       go_simp
       with_reducible rfl
      rotate_left
      ·
       simp only [Act.put, z1_, z2_, z3_, i64_w, i32_w]
       rfl
      refine take_ (i := 4) (N := some 23) (v := ?_) (a' := ?_) (mB_ 17 15871) rfl rfl (take_ofW HT_.out HW_.out (by kernel_rfl)) (fun _ _ _ h => h) (Or.inl ⟨by rfl, ?_⟩) hHeld ?_ ?_; rotate_left
      ·
       rintro w' ⟨s0, s1, s2, s3⟩
       go_simp
       with_reducible rfl
      rotate_left
      ·
       simp only [Act.put, z1_, z2_, z3_, i64_w, i32_w]
       rfl
      refine take_ (i := 9) (N := some 28) (v := ?_) (a' := ?_) (mB_ 17 16383) rfl rfl (take_ofW HT_.out HW_.out (by kernel_rfl)) (fun _ _ _ h => h) (Or.inl ⟨by rfl, ?_⟩) hHeld ?_ ?_; rotate_left
      ·
       rintro w' ⟨s0, s1, s2, s3⟩
       go_simp
       with_reducible rfl
      rotate_left
      ·
       simp only [Act.put, z1_, z2_, z3_, i64_w, i32_w]
       rfl
      refine pure_ (i := 14) (N := some 33) (v := ?_) (a' := ?_) (mB_ 17 32767) rfl rfl (any_of HT_.out (by kernel_rfl)) (fun _ _ _ h => h) (Or.inl ⟨by rfl, ?_⟩) ?_ ?_; rotate_left
      ·
       intro w'
       go_simp
       with_reducible rfl
      rotate_left
      ·
       simp only [Act.put, z1_, z2_, z3_, i64_w, i32_w]
       rfl
      refine one_ (i := 15) (N := some 10) (mB_ 17 65535) rfl rfl (one_of HT_.out (by kernel_rfl)) (by decide) (fun K hK => ?_); refine box_step ?hg (N := 10) ?hd (cs := #[.int .i8 0, .int .i8 0, .int .i8 0, .int .i8 0]) (t := 38) ?hr ?_; (case hd => rfl); (case hg => rfl); (case hr => first | (go_simp; done) | (go_simp; rfl)); intro gb184 hg w13 hbox hb; have HS0_ := (hb.cell (bl_ _ _ (hHeld.1))).trans (hHeld.1); have HS1_ := (hb.cell (bl_ _ _ (hHeld.2.1))).trans (hHeld.2.1); have HS2_ := (hb.cell (bl_ _ _ (hHeld.2.2.1))).trans (hHeld.2.2.1); have HS3_ := (hb.cell (bl_ _ _ (hHeld.2.2.2))).trans (hHeld.2.2.2); have n0_ := am_ (Kd.R_below (by (with_reducible repeat (first | apply Kd.R_alloc | apply Kd.R_drewN | apply Kd.R_drew)); exact HO_8.out) hb); have n1_ := am_ (blk_below (g := gb178) (o := .cells #[.int .i8 x179000_1, .int .i8 x179001_1, .int .i8 x179002_1, .int .i8 x179003_1] 38 (0, 0)) (by (with_reducible repeat (first | apply kN_ | apply kD_ | apply kA_)); exact BK178.out) hb); have n2_ := am_ (bT_ (by repeat (first | (with_reducible first | exact HB.out | apply bA_ | apply bN_ | apply bD_ | refine bS_ ?_ GE178.out) | exact HB.out)) hb); have n3_ := am_ (hbox); have n4_ := am_ ((by rw [hg]; exact (below_size (by repeat (first | (with_reducible first | exact HB.out | apply bA_ | apply bN_ | apply bD_ | refine bS_ ?_ GE178.out) | exact HB.out))) : w.heap.size ≤ gb184)); have n5_ := am_ ((by rw [hg]; exact (below_size (by repeat (first | (with_reducible first | exact HB.out | apply bA_ | apply bN_ | apply bD_ | refine bS_ ?_ GE178.out) | exact HB.out))) : w.heap.size ≤ gb184)); have n6_ := am_ ((by rw [hg]; exact Nat.ne_of_lt (blk_lt (g := gb178) (o := .cells #[.int .i8 x179000_1, .int .i8 x179001_1, .int .i8 x179002_1, .int .i8 x179003_1] 38 (0, 0)) (by (with_reducible repeat (first | apply kN_ | apply kD_ | apply kA_)); exact BK178.out)) : gb178 ≠ gb184)); have n7_ := am_ ((by rw [hg]; exact Nat.ne_of_gt (blk_lt (g := gb178) (o := .cells #[.int .i8 x179000_1, .int .i8 x179001_1, .int .i8 x179002_1, .int .i8 x179003_1] 38 (0, 0)) (by (with_reducible repeat (first | apply kN_ | apply kD_ | apply kA_)); exact BK178.out)) : gb184 ≠ gb178)); clear HO_8; clear BK178; clear HB; have HO_8 := n0_; have BK178 := n1_; have HB := n2_; have BK184 := n3_; have GW184 := n4_; have GE184 := n5_; have NB178_184 := n6_; have NB184_178 := n7_; clear n0_ n1_ n2_ n3_ n4_ n5_ n6_ n7_; clear hb hbox hg; refine hK.out _ _ ⟨HS0_, HS1_, HS2_, HS3_⟩ (fun hHeld => ?_); clear hK K; refine norm_ (a' := ?_) ?_ ?_; rotate_left
      ·
       show Act.put _ (some 10) _ = _
       simp only [Act.put, z1_, z2_, z3_, i64_w, i32_w]
       rfl
      refine one_ (i := 16) (N := none) (mB_ 17 131071) rfl rfl (one_of HT_.out (by kernel_rfl)) (by decide) (fun K hK => ?_); have hs14 : w13.cell? ⟨gb184, 0, none⟩ = some (.int .i8 0) := (kC_ BK184.out 0).trans rfl; have hfs14 := kF_ BK184.out 0; have hns14_0 := NB178_184.out; have hms14_0 := NB184_178.out; have hs15 : w13.cell? ⟨gb184, 1, none⟩ = some (.int .i8 0) := (kC_ BK184.out 1).trans rfl; have hfs15 := kF_ BK184.out 1; have hns15_0 := NB178_184.out; have hms15_0 := NB184_178.out; have hs16 : w13.cell? ⟨gb184, 2, none⟩ = some (.int .i8 0) := (kC_ BK184.out 2).trans rfl; have hfs16 := kF_ BK184.out 2; have hns16_0 := NB178_184.out; have hms16_0 := NB184_178.out; have hs17 : w13.cell? ⟨gb184, 3, none⟩ = some (.int .i8 0) := (kC_ BK184.out 3).trans rfl; have hfs17 := kF_ BK184.out 3; have hns17_0 := NB178_184.out; have hms17_0 := NB184_178.out; refine skip_ (w1 := ?_) (by rfl) rfl ?_ ?_; rotate_left
      ·
       go_simp
       rfl
      refine hK.out _ _ ⟨((cell_far (p := ⟨gb184, _, none⟩) (by first | exact Kd.own_blk (Kd.R_ne HO_8.out BK184.out (by decide)) | (rw [add_block]; exact Kd.own_blk (Kd.R_ne HO_8.out BK184.out (by decide))) | (show (Addr.add _ _).block ≠ _; rw [add_block]; exact Kd.own_blk (Kd.R_ne HO_8.out BK184.out (by decide))) | (dsimp only; exact Kd.own_blk (Kd.R_ne HO_8.out BK184.out (by decide)))) _).trans (((cell_far (p := ⟨gb184, _, none⟩) (by first | exact Kd.own_blk (Kd.R_ne HO_8.out BK184.out (by decide)) | (rw [add_block]; exact Kd.own_blk (Kd.R_ne HO_8.out BK184.out (by decide))) | (show (Addr.add _ _).block ≠ _; rw [add_block]; exact Kd.own_blk (Kd.R_ne HO_8.out BK184.out (by decide))) | (dsimp only; exact Kd.own_blk (Kd.R_ne HO_8.out BK184.out (by decide)))) _).trans (((cell_far (p := ⟨gb184, _, none⟩) (by first | exact Kd.own_blk (Kd.R_ne HO_8.out BK184.out (by decide)) | (rw [add_block]; exact Kd.own_blk (Kd.R_ne HO_8.out BK184.out (by decide))) | (show (Addr.add _ _).block ≠ _; rw [add_block]; exact Kd.own_blk (Kd.R_ne HO_8.out BK184.out (by decide))) | (dsimp only; exact Kd.own_blk (Kd.R_ne HO_8.out BK184.out (by decide)))) _).trans (((cell_far (p := ⟨gb184, _, none⟩) (by first | exact Kd.own_blk (Kd.R_ne HO_8.out BK184.out (by decide)) | (rw [add_block]; exact Kd.own_blk (Kd.R_ne HO_8.out BK184.out (by decide))) | (show (Addr.add _ _).block ≠ _; rw [add_block]; exact Kd.own_blk (Kd.R_ne HO_8.out BK184.out (by decide))) | (dsimp only; exact Kd.own_blk (Kd.R_ne HO_8.out BK184.out (by decide)))) _).trans (hHeld.1)))))))), ((cell_far (p := ⟨gb184, _, none⟩) (by first | exact Kd.own_blk (Kd.R_ne HO_8.out BK184.out (by decide)) | (rw [add_block]; exact Kd.own_blk (Kd.R_ne HO_8.out BK184.out (by decide))) | (show (Addr.add _ _).block ≠ _; rw [add_block]; exact Kd.own_blk (Kd.R_ne HO_8.out BK184.out (by decide))) | (dsimp only; exact Kd.own_blk (Kd.R_ne HO_8.out BK184.out (by decide)))) _).trans (((cell_far (p := ⟨gb184, _, none⟩) (by first | exact Kd.own_blk (Kd.R_ne HO_8.out BK184.out (by decide)) | (rw [add_block]; exact Kd.own_blk (Kd.R_ne HO_8.out BK184.out (by decide))) | (show (Addr.add _ _).block ≠ _; rw [add_block]; exact Kd.own_blk (Kd.R_ne HO_8.out BK184.out (by decide))) | (dsimp only; exact Kd.own_blk (Kd.R_ne HO_8.out BK184.out (by decide)))) _).trans (((cell_far (p := ⟨gb184, _, none⟩) (by first | exact Kd.own_blk (Kd.R_ne HO_8.out BK184.out (by decide)) | (rw [add_block]; exact Kd.own_blk (Kd.R_ne HO_8.out BK184.out (by decide))) | (show (Addr.add _ _).block ≠ _; rw [add_block]; exact Kd.own_blk (Kd.R_ne HO_8.out BK184.out (by decide))) | (dsimp only; exact Kd.own_blk (Kd.R_ne HO_8.out BK184.out (by decide)))) _).trans (((cell_far (p := ⟨gb184, _, none⟩) (by first | exact Kd.own_blk (Kd.R_ne HO_8.out BK184.out (by decide)) | (rw [add_block]; exact Kd.own_blk (Kd.R_ne HO_8.out BK184.out (by decide))) | (show (Addr.add _ _).block ≠ _; rw [add_block]; exact Kd.own_blk (Kd.R_ne HO_8.out BK184.out (by decide))) | (dsimp only; exact Kd.own_blk (Kd.R_ne HO_8.out BK184.out (by decide)))) _).trans (hHeld.2.1)))))))), ((cell_far (p := ⟨gb184, _, none⟩) (by first | exact Kd.own_blk (Kd.R_ne HO_8.out BK184.out (by decide)) | (rw [add_block]; exact Kd.own_blk (Kd.R_ne HO_8.out BK184.out (by decide))) | (show (Addr.add _ _).block ≠ _; rw [add_block]; exact Kd.own_blk (Kd.R_ne HO_8.out BK184.out (by decide))) | (dsimp only; exact Kd.own_blk (Kd.R_ne HO_8.out BK184.out (by decide)))) _).trans (((cell_far (p := ⟨gb184, _, none⟩) (by first | exact Kd.own_blk (Kd.R_ne HO_8.out BK184.out (by decide)) | (rw [add_block]; exact Kd.own_blk (Kd.R_ne HO_8.out BK184.out (by decide))) | (show (Addr.add _ _).block ≠ _; rw [add_block]; exact Kd.own_blk (Kd.R_ne HO_8.out BK184.out (by decide))) | (dsimp only; exact Kd.own_blk (Kd.R_ne HO_8.out BK184.out (by decide)))) _).trans (((cell_far (p := ⟨gb184, _, none⟩) (by first | exact Kd.own_blk (Kd.R_ne HO_8.out BK184.out (by decide)) | (rw [add_block]; exact Kd.own_blk (Kd.R_ne HO_8.out BK184.out (by decide))) | (show (Addr.add _ _).block ≠ _; rw [add_block]; exact Kd.own_blk (Kd.R_ne HO_8.out BK184.out (by decide))) | (dsimp only; exact Kd.own_blk (Kd.R_ne HO_8.out BK184.out (by decide)))) _).trans (((cell_far (p := ⟨gb184, _, none⟩) (by first | exact Kd.own_blk (Kd.R_ne HO_8.out BK184.out (by decide)) | (rw [add_block]; exact Kd.own_blk (Kd.R_ne HO_8.out BK184.out (by decide))) | (show (Addr.add _ _).block ≠ _; rw [add_block]; exact Kd.own_blk (Kd.R_ne HO_8.out BK184.out (by decide))) | (dsimp only; exact Kd.own_blk (Kd.R_ne HO_8.out BK184.out (by decide)))) _).trans (hHeld.2.2.1)))))))), ((cell_far (p := ⟨gb184, _, none⟩) (by first | exact Kd.own_blk (Kd.R_ne HO_8.out BK184.out (by decide)) | (rw [add_block]; exact Kd.own_blk (Kd.R_ne HO_8.out BK184.out (by decide))) | (show (Addr.add _ _).block ≠ _; rw [add_block]; exact Kd.own_blk (Kd.R_ne HO_8.out BK184.out (by decide))) | (dsimp only; exact Kd.own_blk (Kd.R_ne HO_8.out BK184.out (by decide)))) _).trans (((cell_far (p := ⟨gb184, _, none⟩) (by first | exact Kd.own_blk (Kd.R_ne HO_8.out BK184.out (by decide)) | (rw [add_block]; exact Kd.own_blk (Kd.R_ne HO_8.out BK184.out (by decide))) | (show (Addr.add _ _).block ≠ _; rw [add_block]; exact Kd.own_blk (Kd.R_ne HO_8.out BK184.out (by decide))) | (dsimp only; exact Kd.own_blk (Kd.R_ne HO_8.out BK184.out (by decide)))) _).trans (((cell_far (p := ⟨gb184, _, none⟩) (by first | exact Kd.own_blk (Kd.R_ne HO_8.out BK184.out (by decide)) | (rw [add_block]; exact Kd.own_blk (Kd.R_ne HO_8.out BK184.out (by decide))) | (show (Addr.add _ _).block ≠ _; rw [add_block]; exact Kd.own_blk (Kd.R_ne HO_8.out BK184.out (by decide))) | (dsimp only; exact Kd.own_blk (Kd.R_ne HO_8.out BK184.out (by decide)))) _).trans (((cell_far (p := ⟨gb184, _, none⟩) (by first | exact Kd.own_blk (Kd.R_ne HO_8.out BK184.out (by decide)) | (rw [add_block]; exact Kd.own_blk (Kd.R_ne HO_8.out BK184.out (by decide))) | (show (Addr.add _ _).block ≠ _; rw [add_block]; exact Kd.own_blk (Kd.R_ne HO_8.out BK184.out (by decide))) | (dsimp only; exact Kd.own_blk (Kd.R_ne HO_8.out BK184.out (by decide)))) _).trans (hHeld.2.2.2))))))))⟩ (fun hHeld => ?_)
      clear hK K; refine done_ (done_of HT_.out (by kernel_rfl)) ?_; have hnb18 := NB184_178.out; have hnc18 := NB178_184.out; have hcz19_0 : w13.cell? ⟨gb184, 0, none⟩ = some (.int .i8 0) := (kC_ BK184.out 0).trans rfl; have hcz19_1 : w13.cell? ⟨gb184, 1, none⟩ = some (.int .i8 0) := (kC_ BK184.out 1).trans rfl; have hcz19_2 : w13.cell? ⟨gb184, 2, none⟩ = some (.int .i8 0) := (kC_ BK184.out 2).trans rfl; have hcz19_3 : w13.cell? ⟨gb184, 3, none⟩ = some (.int .i8 0) := (kC_ BK184.out 3).trans rfl; have hfz19_0 := kF_ BK184.out 0; have hfz19_1 := kF_ BK184.out 1; have hfz19_2 := kF_ BK184.out 2; have hfz19_3 := kF_ BK184.out 3
      try go_wp2_with (first | ((with_reducible refine gate_callee (f := 49) rfl ?_); refine goesL_ (some 36) rfl rfl Try.func49 (by kernel_rfl) rfl #[.pointer A0, .agg #[.int .i8 ((rd_T46 t179 x9_1).f0), .int .i8 ((rd_T46 t179 x9_1).f1), .int .i8 (IntKind.i8.wrap (a1)), .int .i8 (IntKind.i8.wrap (a2))]] rfl (by (try simp only [List.map_toArray, List.map_cons, List.map_nil]); first | done | rfl | (simp only [List.length_drop, List.length_take]; rfl)) ?_; (with_reducible refine (spec_l01Can.calls k1 _ c0 l0 ((rd_T46 t179 x9_1).f0) ((rd_T46 t179 x9_1).f1) (IntKind.i8.wrap (a1)) (IntKind.i8.wrap (a2)) true _ ?side1 ?side2 A9.out).mono ?_); (case side1 => exact Kd.C_below HR0.out (by repeat (first | (with_reducible first | exact HB.out | apply bA_ | apply bN_ | apply bD_ | refine bS_ ?_ GE178.out | refine bS_ ?_ GE184.out) | exact HB.out))); (case side2 => exact HC0.out); rintro e w20 ⟨rfl, hb⟩; refine ⟨_, rfl, ?_⟩; have n0_ := am_ (Kd.R_below (by (with_reducible repeat (first | apply Kd.R_alloc | apply Kd.R_drewN | apply Kd.R_drew)); exact (Kd.R_mono (Kd.R_far (p := ⟨gb184, 3, none⟩) (Kd.R_far (p := ⟨gb184, 2, none⟩) (Kd.R_far (p := ⟨gb184, 1, none⟩) (Kd.R_far (p := ⟨gb184, 0, none⟩) (Kd.R_types HO_8.out BK184.out (by decide)) (fun _ hk => hk.2) (.int .i8 ((rd_T46 t179 x9_1).f0))) (fun _ hk => hk.2) (.int .i8 ((rd_T46 t179 x9_1).f1))) (fun _ hk => hk.2) (.int .i8 (IntKind.i8.wrap (a1)))) (fun _ hk => hk.2) (.int .i8 (IntKind.i8.wrap (a2)))) (fun _ h_ => h_.1))) hb); have n1_ := am_ (blk_below (g := gb178) (o := .cells #[.int .i8 x179000_1, .int .i8 x179001_1, .int .i8 x179002_1, .int .i8 x179003_1] 38 (0, 0)) (by (with_reducible repeat (first | apply kN_ | apply kD_ | apply kA_)); refine blk_far ?_ NB178_184.out _; (with_reducible repeat (first | apply kN_ | apply kD_ | apply kA_)); refine blk_far ?_ NB178_184.out _; (with_reducible repeat (first | apply kN_ | apply kD_ | apply kA_)); refine blk_far ?_ NB178_184.out _; (with_reducible repeat (first | apply kN_ | apply kD_ | apply kA_)); refine blk_far ?_ NB178_184.out _; (with_reducible repeat (first | apply kN_ | apply kD_ | apply kA_)); exact BK178.out) hb); have n2_ := am_ (blk_below (g := gb184) (o := .cells #[.int .i8 ((rd_T46 t179 x9_1).f0), .int .i8 ((rd_T46 t179 x9_1).f1), .int .i8 (IntKind.i8.wrap (a1)), .int .i8 (IntKind.i8.wrap (a2))] 38 (0, 0)) (by (with_reducible repeat (first | apply kN_ | apply kD_ | apply kA_)); refine blk_put (cs := #[.int .i8 ((rd_T46 t179 x9_1).f0), .int .i8 ((rd_T46 t179 x9_1).f1), .int .i8 (IntKind.i8.wrap (a1)), .int .i8 0]) ?_ 3 _ rfl; (with_reducible repeat (first | apply kN_ | apply kD_ | apply kA_)); refine blk_put (cs := #[.int .i8 ((rd_T46 t179 x9_1).f0), .int .i8 ((rd_T46 t179 x9_1).f1), .int .i8 0, .int .i8 0]) ?_ 2 _ rfl; (with_reducible repeat (first | apply kN_ | apply kD_ | apply kA_)); refine blk_put (cs := #[.int .i8 ((rd_T46 t179 x9_1).f0), .int .i8 0, .int .i8 0, .int .i8 0]) ?_ 1 _ rfl; (with_reducible repeat (first | apply kN_ | apply kD_ | apply kA_)); refine blk_put (cs := #[.int .i8 0, .int .i8 0, .int .i8 0, .int .i8 0]) ?_ 0 _ rfl; (with_reducible repeat (first | apply kN_ | apply kD_ | apply kA_)); exact BK184.out) hb); have n3_ := am_ (bT_ (by repeat (first | (with_reducible first | exact HB.out | apply bA_ | apply bN_ | apply bD_ | refine bS_ ?_ GE178.out | refine bS_ ?_ GE184.out) | exact HB.out)) hb); clear HO_8; clear BK178; clear BK184; clear HB; have HO_8 := n0_; have BK178 := n1_; have BK184 := n2_; have HB := n3_; clear n0_ n1_ n2_ n3_; (try clear hb); (try clear hb2); (try clear hk); (try clear hi); have hcz21_0 : w20.cell? ⟨gb184, 0, none⟩ = some (.int .i8 ((rd_T46 t179 x9_1).f0)) := (kC_ BK184.out 0).trans rfl; have hcz21_1 : w20.cell? ⟨gb184, 1, none⟩ = some (.int .i8 ((rd_T46 t179 x9_1).f1)) := (kC_ BK184.out 1).trans rfl; have hcz21_2 : w20.cell? ⟨gb184, 2, none⟩ = some (.int .i8 (IntKind.i8.wrap (a1))) := (kC_ BK184.out 2).trans rfl; have hcz21_3 : w20.cell? ⟨gb184, 3, none⟩ = some (.int .i8 (IntKind.i8.wrap (a2))) := (kC_ BK184.out 3).trans rfl; have hfz21_0 := kF_ BK184.out 0; have hfz21_1 := kF_ BK184.out 1; have hfz21_2 := kF_ BK184.out 2; have hfz21_3 := kF_ BK184.out 3; have hcz22_0 : w20.cell? ⟨gb178, 0, none⟩ = some (.int .i8 x179000_1) := (kC_ BK178.out 0).trans rfl; have hcz22_1 : w20.cell? ⟨gb178, 1, none⟩ = some (.int .i8 x179001_1) := (kC_ BK178.out 1).trans rfl; have hcz22_2 : w20.cell? ⟨gb178, 2, none⟩ = some (.int .i8 x179002_1) := (kC_ BK178.out 2).trans rfl; have hcz22_3 : w20.cell? ⟨gb178, 3, none⟩ = some (.int .i8 x179003_1) := (kC_ BK178.out 3).trans rfl; have hfz22_0 := kF_ BK178.out 0; have hfz22_1 := kF_ BK178.out 1; have hfz22_2 := kF_ BK178.out 2; have hfz22_3 := kF_ BK178.out 3))
      refine bodyPost_ret (results_ct rfl _ _ gb178 38 #[.int .i8 ((rd_T46 t179 x9_1).f0), .int .i8 ((rd_T46 t179 x9_1).f1), .int .i8 (IntKind.i8.wrap (a1)), .int .i8 (IntKind.i8.wrap (a2))] (0, 0) _ rfl (by (with_reducible repeat (first | apply kN_ | apply kD_ | apply kA_)); refine blk_put (cs := #[.int .i8 ((rd_T46 t179 x9_1).f0), .int .i8 ((rd_T46 t179 x9_1).f1), .int .i8 (IntKind.i8.wrap (a1)), .int .i8 x179003_1]) ?_ 3 _ rfl; (with_reducible repeat (first | apply kN_ | apply kD_ | apply kA_)); refine blk_put (cs := #[.int .i8 ((rd_T46 t179 x9_1).f0), .int .i8 ((rd_T46 t179 x9_1).f1), .int .i8 x179002_1, .int .i8 x179003_1]) ?_ 2 _ rfl; (with_reducible repeat (first | apply kN_ | apply kD_ | apply kA_)); refine blk_put (cs := #[.int .i8 ((rd_T46 t179 x9_1).f0), .int .i8 x179001_1, .int .i8 x179002_1, .int .i8 x179003_1]) ?_ 1 _ rfl; (with_reducible repeat (first | apply kN_ | apply kD_ | apply kA_)); refine blk_put (cs := #[.int .i8 x179000_1, .int .i8 x179001_1, .int .i8 x179002_1, .int .i8 x179003_1]) ?_ 0 _ rfl; (with_reducible repeat (first | apply kN_ | apply kD_ | apply kA_)); exact BK178.out) Try.underlying38 rfl (by kernel_rfl)) rfl ?_; exact ⟨by first | rfl | (simp [errW_none, errW_some] <;> rfl) | (simp [*, errW_none, errW_some] <;> rfl), by repeat (first | (with_reducible first | exact HB.out | apply bA_ | apply bN_ | apply bD_ | refine bS_ ?_ GE178.out | refine bS_ ?_ GE184.out) | exact HB.out)⟩
     ·
      replace c10 := Bool.eq_false_iff.mpr c10; subst c10; have H1 : (spec_l01Place.l0 k1 l0 a1 a2 t179 (wrap64 (x9_1 + 1))) = some (r1, r2, r3, r4, r5) := by rw [if_neg (show ¬ (false = true) by decide)] at H; exact H
      clear H; have H := H1; clear H1; have H' := am_ H; clear H; obtain ⟨Ao23, co23, eo23⟩ := Kd.R_slice HO_8.out; subst eo23
      try go_wp2
      have n0_ := am_ (Kd.R_drew HO_8.out); have n1_ := am_ (kD_ BK178.out); have n2_ := am_ (bD_ HB.out); clear HO_8; clear BK178; clear HB; have HO_8 := n0_; have BK178 := n1_; have HB := n2_; clear n0_ n1_ n2_; have p182 : 0 ≤ (x9_1 : Int) := od_ (by first | (with_reducible assumption) | assumption); have q182 : x9_1 < (t179.length : Int) := od_ (by first | (with_reducible assumption) | assumption); obtain ⟨ad182, e182, hx182_0, hx182_1⟩ := at_T46 (Kd.R_reads' HO_8.out).2.2 x9_1 p182 q182
      cases e182
      replace p182 := eq_true p182; replace q182 := eq_true q182; have p183 : 0 ≤ (x9_1 : Int) := od_ (by first | (with_reducible assumption) | assumption); have q183 : x9_1 < (t179.length : Int) := od_ (by first | (with_reducible assumption) | assumption); obtain ⟨ad183, e183, hx183_0, hx183_1⟩ := at_T46 (Kd.R_reads' HO_8.out).2.2 x9_1 p183 q183; obtain rfl : ad182 = ad183 := (by injection e183)
      replace p183 := eq_true p183; replace q183 := eq_true q183; refine start_ (n := 17) (S := fun w' => w'.cell? (ad182.add ((x9_1).toNat * 2)) = some (.int .i8 ((rd_T46 t179 x9_1).f0)) ∧ w'.cell? ⟨(ad182.add ((x9_1).toNat * 2)).block, (ad182.add ((x9_1).toNat * 2)).off + 1, none⟩ = some (.int .i8 ((rd_T46 t179 x9_1).f1)) ∧ w'.cell? (ad182.add ((x9_1).toNat * 2)) = some (.int .i8 ((rd_T46 t179 x9_1).f0)) ∧ w'.cell? ⟨(ad182.add ((x9_1).toNat * 2)).block, (ad182.add ((x9_1).toNat * 2)).off + 1, none⟩ = some (.int .i8 ((rd_T46 t179 x9_1).f1))) (ds := []) (mB_ 17 0) (by kernel_rfl) rfl rfl ⟨hx182_0, hx182_1, hx183_0, hx183_1⟩ (fun hHeld => ?_); refine with_tabW spec_l01Place.tab5 spec_l01Place.bits5 (fun HT_ HW_ => ?_); generalize wr.drew = w24 at HO_8 BK178 HB hx182_0 hx182_1 hx183_0 hx183_1 hHeld ⊢; refine pure_ (i := 0) (N := some 19) (v := ?_) (a' := ?_) (mB_ 17 1) rfl rfl (any_of HT_.out (by kernel_rfl)) (fun _ _ _ h => h) (Or.inl ⟨by rfl, ?_⟩) ?_ ?_; rotate_left
      ·
       intro w'
       go_simp
       with_reducible rfl
      rotate_left
      ·
       simp only [Act.put, z1_, z2_, z3_, i64_w, i32_w]
       rfl
      refine pure_ (i := 1) (N := some 20) (v := ?_) (a' := ?_) (mB_ 17 3) rfl rfl (any_of HT_.out (by kernel_rfl)) (fun _ _ _ h => h) (Or.inl ⟨by rfl, ?_⟩) ?_ ?_; rotate_left
      ·
       intro w'
       go_simp
       with_reducible rfl
      rotate_left
      ·
       simp only [Act.put, z1_, z2_, z3_, i64_w, i32_w]
       rfl
      refine pure_ (i := 2) (N := some 21) (v := ?_) (a' := ?_) (mB_ 17 7) rfl rfl (any_of HT_.out (by kernel_rfl)) (fun _ _ _ h => h) (Or.inl ⟨by rfl, ?_⟩) ?_ ?_; rotate_left
      ·
       intro w'
       go_simp
       with_reducible rfl
      rotate_left
      ·
       simp only [Act.put, z1_, z2_, z3_, i64_w, i32_w]
       rfl
      refine pure_ (i := 3) (N := some 22) (v := ?_) (a' := ?_) (mB_ 17 15) rfl rfl (any_of HT_.out (by kernel_rfl)) (fun _ _ _ h => h) (Or.inl ⟨by rfl, ?_⟩) ?_ ?_; rotate_left
      ·
       intro w'
       go_simp
       with_reducible rfl
      rotate_left
      ·
       simp only [Act.put, z1_, z2_, z3_, i64_w, i32_w]
       rfl
      refine pure_ (i := 5) (N := some 24) (v := ?_) (a' := ?_) (mB_ 17 47) rfl rfl (any_of HT_.out (by kernel_rfl)) (fun _ _ _ h => h) (Or.inl ⟨by rfl, ?_⟩) ?_ ?_; rotate_left
      ·
       intro w'
       go_simp
       with_reducible rfl
      rotate_left
      ·
       simp only [Act.put, z1_, z2_, z3_, i64_w, i32_w]
       rfl
      refine pure_ (i := 6) (N := some 25) (v := ?_) (a' := ?_) (mB_ 17 111) rfl rfl (any_of HT_.out (by kernel_rfl)) (fun _ _ _ h => h) (Or.inl ⟨by rfl, ?_⟩) ?_ ?_; rotate_left
      ·
       intro w'
       go_simp
       with_reducible rfl
      rotate_left
      ·
       simp only [Act.put, z1_, z2_, z3_, i64_w, i32_w]
       rfl
      refine pure_ (i := 7) (N := some 26) (v := ?_) (a' := ?_) (mB_ 17 239) rfl rfl (any_of HT_.out (by kernel_rfl)) (fun _ _ _ h => h) (Or.inl ⟨by rfl, ?_⟩) ?_ ?_; rotate_left
      ·
       intro w'
       go_simp
       with_reducible rfl
      rotate_left
      ·
       simp only [Act.put, z1_, z2_, z3_, i64_w, i32_w]
       rfl
      refine pure_ (i := 8) (N := some 27) (v := ?_) (a' := ?_) (mB_ 17 495) rfl rfl (any_of HT_.out (by kernel_rfl)) (fun _ _ _ h => h) (Or.inl ⟨by rfl, ?_⟩) ?_ ?_; rotate_left
      ·
       intro w'
       go_simp
       with_reducible rfl
      rotate_left
      ·
       simp only [Act.put, z1_, z2_, z3_, i64_w, i32_w]
       rfl
      refine pure_ (i := 10) (N := some 29) (v := ?_) (a' := ?_) (mB_ 17 1519) rfl rfl (any_of HT_.out (by kernel_rfl)) (fun _ _ _ h => h) (Or.inl ⟨by rfl, ?_⟩) ?_ ?_; rotate_left
      ·
       intro w'
       go_simp
       with_reducible rfl
      rotate_left
      ·
       simp only [Act.put, z1_, z2_, z3_, i64_w, i32_w]
       rfl
      refine pure_ (i := 11) (N := some 30) (v := ?_) (a' := ?_) (mB_ 17 3567) rfl rfl (any_of HT_.out (by kernel_rfl)) (fun _ _ _ h => h) (Or.inl ⟨by rfl, ?_⟩) ?_ ?_; rotate_left
      ·
       intro w'
       go_simp
       with_reducible rfl
      rotate_left
      ·
       simp only [Act.put, z1_, z2_, z3_, i64_w, i32_w]
       rfl
      refine pure_ (i := 12) (N := some 31) (v := ?_) (a' := ?_) (mB_ 17 7663) rfl rfl (any_of HT_.out (by kernel_rfl)) (fun _ _ _ h => h) (Or.inl ⟨by rfl, ?_⟩) ?_ ?_; rotate_left
      ·
       intro w'
       go_simp
       with_reducible rfl
      rotate_left
      ·
       simp only [Act.put, z1_, z2_, z3_, i64_w, i32_w]
       rfl
      refine pure_ (i := 13) (N := some 32) (v := ?_) (a' := ?_) (mB_ 17 15855) rfl rfl (any_of HT_.out (by kernel_rfl)) (fun _ _ _ h => h) (Or.inl ⟨by rfl, ?_⟩) ?_ ?_; rotate_left
      ·
       intro w'
       go_simp
       with_reducible rfl
      rotate_left
      ·
       simp only [Act.put, z1_, z2_, z3_, i64_w, i32_w]
       rfl
      refine take_ (i := 4) (N := some 23) (v := ?_) (a' := ?_) (mB_ 17 15871) rfl rfl (take_ofW HT_.out HW_.out (by kernel_rfl)) (fun _ _ _ h => h) (Or.inl ⟨by rfl, ?_⟩) hHeld ?_ ?_; rotate_left
      ·
       rintro w' ⟨s0, s1, s2, s3⟩
       go_simp
       with_reducible rfl
      rotate_left
      ·
       simp only [Act.put, z1_, z2_, z3_, i64_w, i32_w]
       rfl
      refine take_ (i := 9) (N := some 28) (v := ?_) (a' := ?_) (mB_ 17 16383) rfl rfl (take_ofW HT_.out HW_.out (by kernel_rfl)) (fun _ _ _ h => h) (Or.inl ⟨by rfl, ?_⟩) hHeld ?_ ?_; rotate_left
      ·
       rintro w' ⟨s0, s1, s2, s3⟩
       go_simp
       with_reducible rfl
      rotate_left
      ·
       simp only [Act.put, z1_, z2_, z3_, i64_w, i32_w]
       rfl
      refine pure_ (i := 14) (N := some 33) (v := ?_) (a' := ?_) (mB_ 17 32767) rfl rfl (any_of HT_.out (by kernel_rfl)) (fun _ _ _ h => h) (Or.inl ⟨by rfl, ?_⟩) ?_ ?_; rotate_left
      ·
       intro w'
       go_simp
       with_reducible rfl
      rotate_left
      ·
       simp only [Act.put, z1_, z2_, z3_, i64_w, i32_w]
       rfl
      refine one_ (i := 15) (N := some 10) (mB_ 17 65535) rfl rfl (one_of HT_.out (by kernel_rfl)) (by decide) (fun K hK => ?_); refine box_step ?hg (N := 10) ?hd (cs := #[.int .i8 0, .int .i8 0, .int .i8 0, .int .i8 0]) (t := 38) ?hr ?_; (case hd => rfl); (case hg => rfl); (case hr => first | (go_simp; done) | (go_simp; rfl)); intro gb184 hg w25 hbox hb; have HS0_ := (hb.cell (bl_ _ _ (hHeld.1))).trans (hHeld.1); have HS1_ := (hb.cell (bl_ _ _ (hHeld.2.1))).trans (hHeld.2.1); have HS2_ := (hb.cell (bl_ _ _ (hHeld.2.2.1))).trans (hHeld.2.2.1); have HS3_ := (hb.cell (bl_ _ _ (hHeld.2.2.2))).trans (hHeld.2.2.2); have n0_ := am_ (Kd.R_below (by (with_reducible repeat (first | apply Kd.R_alloc | apply Kd.R_drewN | apply Kd.R_drew)); exact HO_8.out) hb); have n1_ := am_ (blk_below (g := gb178) (o := .cells #[.int .i8 x179000_1, .int .i8 x179001_1, .int .i8 x179002_1, .int .i8 x179003_1] 38 (0, 0)) (by (with_reducible repeat (first | apply kN_ | apply kD_ | apply kA_)); exact BK178.out) hb); have n2_ := am_ (bT_ (by repeat (first | (with_reducible first | exact HB.out | apply bA_ | apply bN_ | apply bD_ | refine bS_ ?_ GE178.out) | exact HB.out)) hb); have n3_ := am_ (hbox); have n4_ := am_ ((by rw [hg]; exact (below_size (by repeat (first | (with_reducible first | exact HB.out | apply bA_ | apply bN_ | apply bD_ | refine bS_ ?_ GE178.out) | exact HB.out))) : w.heap.size ≤ gb184)); have n5_ := am_ ((by rw [hg]; exact (below_size (by repeat (first | (with_reducible first | exact HB.out | apply bA_ | apply bN_ | apply bD_ | refine bS_ ?_ GE178.out) | exact HB.out))) : w.heap.size ≤ gb184)); have n6_ := am_ ((by rw [hg]; exact Nat.ne_of_lt (blk_lt (g := gb178) (o := .cells #[.int .i8 x179000_1, .int .i8 x179001_1, .int .i8 x179002_1, .int .i8 x179003_1] 38 (0, 0)) (by (with_reducible repeat (first | apply kN_ | apply kD_ | apply kA_)); exact BK178.out)) : gb178 ≠ gb184)); have n7_ := am_ ((by rw [hg]; exact Nat.ne_of_gt (blk_lt (g := gb178) (o := .cells #[.int .i8 x179000_1, .int .i8 x179001_1, .int .i8 x179002_1, .int .i8 x179003_1] 38 (0, 0)) (by (with_reducible repeat (first | apply kN_ | apply kD_ | apply kA_)); exact BK178.out)) : gb184 ≠ gb178)); clear HO_8; clear BK178; clear HB; have HO_8 := n0_; have BK178 := n1_; have HB := n2_; have BK184 := n3_; have GW184 := n4_; have GE184 := n5_; have NB178_184 := n6_; have NB184_178 := n7_; clear n0_ n1_ n2_ n3_ n4_ n5_ n6_ n7_; clear hb hbox hg; refine hK.out _ _ ⟨HS0_, HS1_, HS2_, HS3_⟩ (fun hHeld => ?_); clear hK K; refine norm_ (a' := ?_) ?_ ?_; rotate_left
      ·
       show Act.put _ (some 10) _ = _
       simp only [Act.put, z1_, z2_, z3_, i64_w, i32_w]
       rfl
      refine one_ (i := 16) (N := none) (mB_ 17 131071) rfl rfl (one_of HT_.out (by kernel_rfl)) (by decide) (fun K hK => ?_); have hs26 : w25.cell? ⟨gb184, 0, none⟩ = some (.int .i8 0) := (kC_ BK184.out 0).trans rfl; have hfs26 := kF_ BK184.out 0; have hns26_0 := NB178_184.out; have hms26_0 := NB184_178.out; have hs27 : w25.cell? ⟨gb184, 1, none⟩ = some (.int .i8 0) := (kC_ BK184.out 1).trans rfl; have hfs27 := kF_ BK184.out 1; have hns27_0 := NB178_184.out; have hms27_0 := NB184_178.out; have hs28 : w25.cell? ⟨gb184, 2, none⟩ = some (.int .i8 0) := (kC_ BK184.out 2).trans rfl; have hfs28 := kF_ BK184.out 2; have hns28_0 := NB178_184.out; have hms28_0 := NB184_178.out; have hs29 : w25.cell? ⟨gb184, 3, none⟩ = some (.int .i8 0) := (kC_ BK184.out 3).trans rfl; have hfs29 := kF_ BK184.out 3; have hns29_0 := NB178_184.out; have hms29_0 := NB184_178.out; refine skip_ (w1 := ?_) (by rfl) rfl ?_ ?_; rotate_left
      ·
       go_simp
       rfl
      refine hK.out _ _ ⟨((cell_far (p := ⟨gb184, _, none⟩) (by first | exact Kd.own_blk (Kd.R_ne HO_8.out BK184.out (by decide)) | (rw [add_block]; exact Kd.own_blk (Kd.R_ne HO_8.out BK184.out (by decide))) | (show (Addr.add _ _).block ≠ _; rw [add_block]; exact Kd.own_blk (Kd.R_ne HO_8.out BK184.out (by decide))) | (dsimp only; exact Kd.own_blk (Kd.R_ne HO_8.out BK184.out (by decide)))) _).trans (((cell_far (p := ⟨gb184, _, none⟩) (by first | exact Kd.own_blk (Kd.R_ne HO_8.out BK184.out (by decide)) | (rw [add_block]; exact Kd.own_blk (Kd.R_ne HO_8.out BK184.out (by decide))) | (show (Addr.add _ _).block ≠ _; rw [add_block]; exact Kd.own_blk (Kd.R_ne HO_8.out BK184.out (by decide))) | (dsimp only; exact Kd.own_blk (Kd.R_ne HO_8.out BK184.out (by decide)))) _).trans (((cell_far (p := ⟨gb184, _, none⟩) (by first | exact Kd.own_blk (Kd.R_ne HO_8.out BK184.out (by decide)) | (rw [add_block]; exact Kd.own_blk (Kd.R_ne HO_8.out BK184.out (by decide))) | (show (Addr.add _ _).block ≠ _; rw [add_block]; exact Kd.own_blk (Kd.R_ne HO_8.out BK184.out (by decide))) | (dsimp only; exact Kd.own_blk (Kd.R_ne HO_8.out BK184.out (by decide)))) _).trans (((cell_far (p := ⟨gb184, _, none⟩) (by first | exact Kd.own_blk (Kd.R_ne HO_8.out BK184.out (by decide)) | (rw [add_block]; exact Kd.own_blk (Kd.R_ne HO_8.out BK184.out (by decide))) | (show (Addr.add _ _).block ≠ _; rw [add_block]; exact Kd.own_blk (Kd.R_ne HO_8.out BK184.out (by decide))) | (dsimp only; exact Kd.own_blk (Kd.R_ne HO_8.out BK184.out (by decide)))) _).trans (hHeld.1)))))))), ((cell_far (p := ⟨gb184, _, none⟩) (by first | exact Kd.own_blk (Kd.R_ne HO_8.out BK184.out (by decide)) | (rw [add_block]; exact Kd.own_blk (Kd.R_ne HO_8.out BK184.out (by decide))) | (show (Addr.add _ _).block ≠ _; rw [add_block]; exact Kd.own_blk (Kd.R_ne HO_8.out BK184.out (by decide))) | (dsimp only; exact Kd.own_blk (Kd.R_ne HO_8.out BK184.out (by decide)))) _).trans (((cell_far (p := ⟨gb184, _, none⟩) (by first | exact Kd.own_blk (Kd.R_ne HO_8.out BK184.out (by decide)) | (rw [add_block]; exact Kd.own_blk (Kd.R_ne HO_8.out BK184.out (by decide))) | (show (Addr.add _ _).block ≠ _; rw [add_block]; exact Kd.own_blk (Kd.R_ne HO_8.out BK184.out (by decide))) | (dsimp only; exact Kd.own_blk (Kd.R_ne HO_8.out BK184.out (by decide)))) _).trans (((cell_far (p := ⟨gb184, _, none⟩) (by first | exact Kd.own_blk (Kd.R_ne HO_8.out BK184.out (by decide)) | (rw [add_block]; exact Kd.own_blk (Kd.R_ne HO_8.out BK184.out (by decide))) | (show (Addr.add _ _).block ≠ _; rw [add_block]; exact Kd.own_blk (Kd.R_ne HO_8.out BK184.out (by decide))) | (dsimp only; exact Kd.own_blk (Kd.R_ne HO_8.out BK184.out (by decide)))) _).trans (((cell_far (p := ⟨gb184, _, none⟩) (by first | exact Kd.own_blk (Kd.R_ne HO_8.out BK184.out (by decide)) | (rw [add_block]; exact Kd.own_blk (Kd.R_ne HO_8.out BK184.out (by decide))) | (show (Addr.add _ _).block ≠ _; rw [add_block]; exact Kd.own_blk (Kd.R_ne HO_8.out BK184.out (by decide))) | (dsimp only; exact Kd.own_blk (Kd.R_ne HO_8.out BK184.out (by decide)))) _).trans (hHeld.2.1)))))))), ((cell_far (p := ⟨gb184, _, none⟩) (by first | exact Kd.own_blk (Kd.R_ne HO_8.out BK184.out (by decide)) | (rw [add_block]; exact Kd.own_blk (Kd.R_ne HO_8.out BK184.out (by decide))) | (show (Addr.add _ _).block ≠ _; rw [add_block]; exact Kd.own_blk (Kd.R_ne HO_8.out BK184.out (by decide))) | (dsimp only; exact Kd.own_blk (Kd.R_ne HO_8.out BK184.out (by decide)))) _).trans (((cell_far (p := ⟨gb184, _, none⟩) (by first | exact Kd.own_blk (Kd.R_ne HO_8.out BK184.out (by decide)) | (rw [add_block]; exact Kd.own_blk (Kd.R_ne HO_8.out BK184.out (by decide))) | (show (Addr.add _ _).block ≠ _; rw [add_block]; exact Kd.own_blk (Kd.R_ne HO_8.out BK184.out (by decide))) | (dsimp only; exact Kd.own_blk (Kd.R_ne HO_8.out BK184.out (by decide)))) _).trans (((cell_far (p := ⟨gb184, _, none⟩) (by first | exact Kd.own_blk (Kd.R_ne HO_8.out BK184.out (by decide)) | (rw [add_block]; exact Kd.own_blk (Kd.R_ne HO_8.out BK184.out (by decide))) | (show (Addr.add _ _).block ≠ _; rw [add_block]; exact Kd.own_blk (Kd.R_ne HO_8.out BK184.out (by decide))) | (dsimp only; exact Kd.own_blk (Kd.R_ne HO_8.out BK184.out (by decide)))) _).trans (((cell_far (p := ⟨gb184, _, none⟩) (by first | exact Kd.own_blk (Kd.R_ne HO_8.out BK184.out (by decide)) | (rw [add_block]; exact Kd.own_blk (Kd.R_ne HO_8.out BK184.out (by decide))) | (show (Addr.add _ _).block ≠ _; rw [add_block]; exact Kd.own_blk (Kd.R_ne HO_8.out BK184.out (by decide))) | (dsimp only; exact Kd.own_blk (Kd.R_ne HO_8.out BK184.out (by decide)))) _).trans (hHeld.2.2.1)))))))), ((cell_far (p := ⟨gb184, _, none⟩) (by first | exact Kd.own_blk (Kd.R_ne HO_8.out BK184.out (by decide)) | (rw [add_block]; exact Kd.own_blk (Kd.R_ne HO_8.out BK184.out (by decide))) | (show (Addr.add _ _).block ≠ _; rw [add_block]; exact Kd.own_blk (Kd.R_ne HO_8.out BK184.out (by decide))) | (dsimp only; exact Kd.own_blk (Kd.R_ne HO_8.out BK184.out (by decide)))) _).trans (((cell_far (p := ⟨gb184, _, none⟩) (by first | exact Kd.own_blk (Kd.R_ne HO_8.out BK184.out (by decide)) | (rw [add_block]; exact Kd.own_blk (Kd.R_ne HO_8.out BK184.out (by decide))) | (show (Addr.add _ _).block ≠ _; rw [add_block]; exact Kd.own_blk (Kd.R_ne HO_8.out BK184.out (by decide))) | (dsimp only; exact Kd.own_blk (Kd.R_ne HO_8.out BK184.out (by decide)))) _).trans (((cell_far (p := ⟨gb184, _, none⟩) (by first | exact Kd.own_blk (Kd.R_ne HO_8.out BK184.out (by decide)) | (rw [add_block]; exact Kd.own_blk (Kd.R_ne HO_8.out BK184.out (by decide))) | (show (Addr.add _ _).block ≠ _; rw [add_block]; exact Kd.own_blk (Kd.R_ne HO_8.out BK184.out (by decide))) | (dsimp only; exact Kd.own_blk (Kd.R_ne HO_8.out BK184.out (by decide)))) _).trans (((cell_far (p := ⟨gb184, _, none⟩) (by first | exact Kd.own_blk (Kd.R_ne HO_8.out BK184.out (by decide)) | (rw [add_block]; exact Kd.own_blk (Kd.R_ne HO_8.out BK184.out (by decide))) | (show (Addr.add _ _).block ≠ _; rw [add_block]; exact Kd.own_blk (Kd.R_ne HO_8.out BK184.out (by decide))) | (dsimp only; exact Kd.own_blk (Kd.R_ne HO_8.out BK184.out (by decide)))) _).trans (hHeld.2.2.2))))))))⟩ (fun hHeld => ?_)
      clear hK K; refine done_ (done_of HT_.out (by kernel_rfl)) ?_; have hnb30 := NB184_178.out; have hnc30 := NB178_184.out; have hcz31_0 : w25.cell? ⟨gb184, 0, none⟩ = some (.int .i8 0) := (kC_ BK184.out 0).trans rfl; have hcz31_1 : w25.cell? ⟨gb184, 1, none⟩ = some (.int .i8 0) := (kC_ BK184.out 1).trans rfl; have hcz31_2 : w25.cell? ⟨gb184, 2, none⟩ = some (.int .i8 0) := (kC_ BK184.out 2).trans rfl; have hcz31_3 : w25.cell? ⟨gb184, 3, none⟩ = some (.int .i8 0) := (kC_ BK184.out 3).trans rfl; have hfz31_0 := kF_ BK184.out 0; have hfz31_1 := kF_ BK184.out 1; have hfz31_2 := kF_ BK184.out 2; have hfz31_3 := kF_ BK184.out 3
      try go_wp2_with (first | ((with_reducible refine gate_callee (f := 49) rfl ?_); refine goesL_ (some 36) rfl rfl Try.func49 (by kernel_rfl) rfl #[.pointer A0, .agg #[.int .i8 ((rd_T46 t179 x9_1).f0), .int .i8 ((rd_T46 t179 x9_1).f1), .int .i8 (IntKind.i8.wrap (a1)), .int .i8 (IntKind.i8.wrap (a2))]] rfl (by (try simp only [List.map_toArray, List.map_cons, List.map_nil]); first | done | rfl | (simp only [List.length_drop, List.length_take]; rfl)) ?_; (with_reducible refine (spec_l01Can.calls k1 _ c0 l0 ((rd_T46 t179 x9_1).f0) ((rd_T46 t179 x9_1).f1) (IntKind.i8.wrap (a1)) (IntKind.i8.wrap (a2)) false _ ?side1 ?side2 A9.out).mono ?_); (case side1 => exact Kd.C_below HR0.out (by repeat (first | (with_reducible first | exact HB.out | apply bA_ | apply bN_ | apply bD_ | refine bS_ ?_ GE178.out | refine bS_ ?_ GE184.out) | exact HB.out))); (case side2 => exact HC0.out); rintro e w32 ⟨rfl, hb⟩; refine ⟨_, rfl, ?_⟩; have n0_ := am_ (Kd.R_below (by (with_reducible repeat (first | apply Kd.R_alloc | apply Kd.R_drewN | apply Kd.R_drew)); exact (Kd.R_mono (Kd.R_far (p := ⟨gb184, 3, none⟩) (Kd.R_far (p := ⟨gb184, 2, none⟩) (Kd.R_far (p := ⟨gb184, 1, none⟩) (Kd.R_far (p := ⟨gb184, 0, none⟩) (Kd.R_types HO_8.out BK184.out (by decide)) (fun _ hk => hk.2) (.int .i8 ((rd_T46 t179 x9_1).f0))) (fun _ hk => hk.2) (.int .i8 ((rd_T46 t179 x9_1).f1))) (fun _ hk => hk.2) (.int .i8 (IntKind.i8.wrap (a1)))) (fun _ hk => hk.2) (.int .i8 (IntKind.i8.wrap (a2)))) (fun _ h_ => h_.1))) hb); have n1_ := am_ (blk_below (g := gb178) (o := .cells #[.int .i8 x179000_1, .int .i8 x179001_1, .int .i8 x179002_1, .int .i8 x179003_1] 38 (0, 0)) (by (with_reducible repeat (first | apply kN_ | apply kD_ | apply kA_)); refine blk_far ?_ NB178_184.out _; (with_reducible repeat (first | apply kN_ | apply kD_ | apply kA_)); refine blk_far ?_ NB178_184.out _; (with_reducible repeat (first | apply kN_ | apply kD_ | apply kA_)); refine blk_far ?_ NB178_184.out _; (with_reducible repeat (first | apply kN_ | apply kD_ | apply kA_)); refine blk_far ?_ NB178_184.out _; (with_reducible repeat (first | apply kN_ | apply kD_ | apply kA_)); exact BK178.out) hb); have n2_ := am_ (blk_below (g := gb184) (o := .cells #[.int .i8 ((rd_T46 t179 x9_1).f0), .int .i8 ((rd_T46 t179 x9_1).f1), .int .i8 (IntKind.i8.wrap (a1)), .int .i8 (IntKind.i8.wrap (a2))] 38 (0, 0)) (by (with_reducible repeat (first | apply kN_ | apply kD_ | apply kA_)); refine blk_put (cs := #[.int .i8 ((rd_T46 t179 x9_1).f0), .int .i8 ((rd_T46 t179 x9_1).f1), .int .i8 (IntKind.i8.wrap (a1)), .int .i8 0]) ?_ 3 _ rfl; (with_reducible repeat (first | apply kN_ | apply kD_ | apply kA_)); refine blk_put (cs := #[.int .i8 ((rd_T46 t179 x9_1).f0), .int .i8 ((rd_T46 t179 x9_1).f1), .int .i8 0, .int .i8 0]) ?_ 2 _ rfl; (with_reducible repeat (first | apply kN_ | apply kD_ | apply kA_)); refine blk_put (cs := #[.int .i8 ((rd_T46 t179 x9_1).f0), .int .i8 0, .int .i8 0, .int .i8 0]) ?_ 1 _ rfl; (with_reducible repeat (first | apply kN_ | apply kD_ | apply kA_)); refine blk_put (cs := #[.int .i8 0, .int .i8 0, .int .i8 0, .int .i8 0]) ?_ 0 _ rfl; (with_reducible repeat (first | apply kN_ | apply kD_ | apply kA_)); exact BK184.out) hb); have n3_ := am_ (bT_ (by repeat (first | (with_reducible first | exact HB.out | apply bA_ | apply bN_ | apply bD_ | refine bS_ ?_ GE178.out | refine bS_ ?_ GE184.out) | exact HB.out)) hb); clear HO_8; clear BK178; clear BK184; clear HB; have HO_8 := n0_; have BK178 := n1_; have BK184 := n2_; have HB := n3_; clear n0_ n1_ n2_ n3_; (try clear hb); (try clear hb2); (try clear hk); (try clear hi)))
      go_roundg k1
      case measure => have := HK1.out; omega
      case rel => exact ⟨(wrap64 (x9_1 + 1)), (x179000_1), (x179001_1), (x179002_1), (x179003_1), (by first | rfl | (simp; done) | (simp [*]; done)), H', ⟨by have := HK1.out; omega⟩, ⟨by (with_reducible repeat (first | apply Kd.R_alloc | apply Kd.R_drewN | apply Kd.R_drew)); exact HO_8.out⟩, ⟨by (with_reducible repeat (first | apply kN_ | apply kD_ | apply kA_)); exact BK178.out⟩, ⟨by repeat (first | (with_reducible first | exact HB.out | apply bA_ | apply bN_ | apply bD_ | refine bS_ ?_ GE178.out | refine bS_ ?_ GE184.out) | exact HB.out)⟩⟩
    ·
     rw [if_neg c8] at H; exact absurd H (by simp)
   ·
    rw [if_neg c7] at H; have c7b0 : decide (x9_1 < (t179.length : Int)) = false := decide_eq_false c7; clear c7; simp only [Option.some.injEq, Prod.mk.injEq] at H; obtain ⟨rfl, rfl, rfl, rfl, rfl⟩ := H; obtain ⟨Ao33, co33, eo33⟩ := Kd.R_slice HO_8.out; subst eo33; have hcz34_0 : wr.cell? ⟨gb178, 0, none⟩ = some (.int .i8 x179000_1) := (kC_ BK178.out 0).trans rfl; have hcz34_1 : wr.cell? ⟨gb178, 1, none⟩ = some (.int .i8 x179001_1) := (kC_ BK178.out 1).trans rfl; have hcz34_2 : wr.cell? ⟨gb178, 2, none⟩ = some (.int .i8 x179002_1) := (kC_ BK178.out 2).trans rfl; have hcz34_3 : wr.cell? ⟨gb178, 3, none⟩ = some (.int .i8 x179003_1) := (kC_ BK178.out 3).trans rfl; have hfz34_0 := kF_ BK178.out 0; have hfz34_1 := kF_ BK178.out 1; have hfz34_2 := kF_ BK178.out 2; have hfz34_3 := kF_ BK178.out 3
    go_wp2
    refine bodyPost_ret (results_ct rfl _ _ gb178 38 #[.int .i8 0, .int .i8 0, .int .i8 0, .int .i8 0] (0, 0) _ rfl (by (with_reducible repeat (first | apply kN_ | apply kD_ | apply kA_)); refine blk_put (cs := #[.int .i8 0, .int .i8 0, .int .i8 0, .int .i8 x179003_1]) ?_ 3 _ rfl; (with_reducible repeat (first | apply kN_ | apply kD_ | apply kA_)); refine blk_put (cs := #[.int .i8 0, .int .i8 0, .int .i8 x179002_1, .int .i8 x179003_1]) ?_ 2 _ rfl; (with_reducible repeat (first | apply kN_ | apply kD_ | apply kA_)); refine blk_put (cs := #[.int .i8 0, .int .i8 x179001_1, .int .i8 x179002_1, .int .i8 x179003_1]) ?_ 1 _ rfl; (with_reducible repeat (first | apply kN_ | apply kD_ | apply kA_)); refine blk_put (cs := #[.int .i8 x179000_1, .int .i8 x179001_1, .int .i8 x179002_1, .int .i8 x179003_1]) ?_ 0 _ rfl; (with_reducible repeat (first | apply kN_ | apply kD_ | apply kA_)); exact BK178.out) Try.underlying38 rfl (by kernel_rfl)) rfl ?_; exact ⟨by first | rfl | (simp [errW_none, errW_some] <;> rfl) | (simp [*, errW_none, errW_some] <;> rfl), by repeat (first | (with_reducible first | exact HB.out | apply bA_ | apply bN_ | apply bD_ | refine bS_ ?_ GE178.out) | exact HB.out)⟩
end Go.Proofs.Ytanpafadehnhlaa.Q
