import Derived.Test.YtnabkphkdkdigaaQCutB
import Derived.Outline
namespace Go.Proofs.Ytnabkphkdkdigaa.Q
open Go.RowKit Go.Shelf Go.Proofs.YtnabkphkdkdigaaW.PrintWords Go.Proofs.YtnabkphkdkdigaaW.PrintLast Go.Proofs.YtnabkphkdkdigaaW.PrintMore
set_option linter.unusedVariables false
set_option linter.unusedSimpArgs false
attribute [local go_sem] Oper.semAt_some
namespace Cr
def cells (os : List Int) : Array Value := (os.map (Value.int .i64)).toArray
theorem make_n (n : Nat) (hn : n ≤ 1000) (W : World) : (Instr.makeSlice 24 (.int .i64 (n : Int)) (.int .i64 (n : Int))).run Try.prog W = .ok (.slice (some ⟨W.heap.size, 0, none⟩) n n) (W.alloc (.cells (cells (List.replicate n 0)) 2)) := by
  obtain ⟨i0, hi, hz0, hz1, hz2⟩ := info_parts info2
  have h := run_make (P := Try.prog) W 24 2 i0 (.int .i64 0) Try.underlying24 hi hz0 .i64 .i64 (n : Int) (n : Int) (by omega) (Int.le_refl _) (by rw [hz2]; omega) (by omega)
  rw [h, hz1]
  have e : madeCells (Value.int .i64 0).cells (n * 1) = cells (List.replicate n 0) := by
    apply Array.ext
    · simp [madeCells, cells]
    · intro j h1 h2
      simp [madeCells, cells, Value.cells, Nat.mod_one]
  simp only [Int.toNat_natCast]
  rw [e]
theorem cells_kept {W W' : World} {row : Option Nat} {b : Nat} {c : Array Value} {t : TypeId} (h : W.heap[b]? = some (.cells c t (0, 0))) (hg : W.grownBy W' row) (hr : ∀ r, row = some r → ∃ o : Obj, W.heap[r]? = some o ∧ o.isCells = false) : W'.heap[b]? = some (.cells c t (0, 0)) := by
  refine (hg.block b (Array.getElem?_eq_some_iff.1 h).1 fun e => ?_).trans h
  obtain ⟨o, ho, hc⟩ := hr b e.symm
  rw [h] at ho
  cases ho
  cases hc
theorem cells_at {W : World} {g : Nat} {os : List Int} (h : W.heap[g]? = some (.cells (cells os) 2 (0, 0))) (i : Nat) (hi : i < os.length) : W.cell? ⟨g, i, none⟩ = some (.int .i64 (rd os i)) := by
  rw [blk_cell h]
  unfold rd
  rw [Int.toNat_natCast, List.getD_eq_getElem?_getD]
  simp [cells, hi]
theorem cells_set (os : List Int) (i : Nat) (x : Int) : (cells os).setIfInBounds i (.int .i64 x) = cells (os.set i x) := by simp [cells, List.map_set]
/-- The cells that the loop's rounds write, and those that they read. -/
structure Mem (n₀ g Bj Bo Bl : Nat) (w W : World) (n : Nat) (a2 : Int) (os : List Int) (left : Int) : Prop where
  row : W.heap[g]? = some (.cells (cells os) 2 (0, 0))
  box : Boxed W Bo 24 (.slice (some ⟨g, 0, none⟩) n n)
  left : Boxed W Bl 2 (.int .i64 left)
  joint : Boxed W Bj 2 (.int .i64 a2)
  below : Below n₀ w W
  size : g + 1 + 1 + 1 < W.heap.size
theorem Mem.own {β : Type} (B n₀ g Bj Bo Bl : Nat) (w : World) (n : Nat) (a2 : Int) (os : β → List Int) (left : β → Int) (hn : n₀ ≤ w.heap.size) (hB : n₀ ≤ B) : OwnFrom B (fun (s : β) W => Mem n₀ g Bj Bo Bl w W n a2 (os s) (left s)) := by
  intro s W W' row h hg hr
  have hr' : ∀ r, row = some r → ∃ o : Obj, W.heap[r]? = some o ∧ o.isCells = false := fun r e => (hr r e).2
  exact ⟨cells_kept h.row hg hr', cells_kept h.box hg hr', cells_kept h.left hg hr', cells_kept h.joint hg hr', h.below.grown hg (Nat.le_trans hn h.below.size) (fun k e => Nat.le_trans hB (hr k e).1), Nat.lt_of_lt_of_le h.size hg.size⟩
theorem four (W : World) (a b c d : Obj) : ((((W.alloc a).alloc b).alloc c).alloc d).heap[W.heap.size]? = some a ∧ ((((W.alloc a).alloc b).alloc c).alloc d).heap[W.heap.size + 1]? = some b ∧ ((((W.alloc a).alloc b).alloc c).alloc d).heap[W.heap.size + 1 + 1]? = some c ∧ ((((W.alloc a).alloc b).alloc c).alloc d).heap[W.heap.size + 1 + 1 + 1]? = some d ∧ ((((W.alloc a).alloc b).alloc c).alloc d).heap.size = W.heap.size + 4 ∧ ∀ n₀ w, n₀ ≤ w.heap.size → Below n₀ w W → Below n₀ w ((((W.alloc a).alloc b).alloc c).alloc d) := by
  refine ⟨?_, ?_, ?_, ?_, by simp, fun n₀ w hn h => ?_⟩
  · exact (Below.heap_alloc _ _ _ (by simp; omega)).trans ((Below.heap_alloc _ _ _ (by simp; omega)).trans ((Below.heap_alloc _ _ _ (by simp)).trans (World.alloc_heap_new W a)))
  · exact (Below.heap_alloc _ _ _ (by simp)).trans ((Below.heap_alloc _ _ _ (by simp)).trans (by have := World.alloc_heap_new (W.alloc a) b; rwa [World.size_alloc] at this))
  · exact (Below.heap_alloc _ _ _ (by simp)).trans (by have := World.alloc_heap_new ((W.alloc a).alloc b) c; rwa [World.size_alloc, World.size_alloc] at this)
  · have := World.alloc_heap_new (((W.alloc a).alloc b).alloc c) d
    rwa [World.size_alloc, World.size_alloc, World.size_alloc] at this
  · exact h.trans (((((Below.refl _ W).alloc (Nat.le_refl _) a).alloc (by simp) b).alloc (by simp; omega) c).alloc (by simp; omega) d |>.mono (Nat.le_trans hn h.size))
theorem set_rd (os : List Int) (i : Nat) (hi : i < os.length) : os.set i (rd os i) = os := by
  unfold rd
  rw [Int.toNat_natCast, List.getD_eq_getElem?_getD, List.getElem?_eq_getElem hi]
  simp
/-- What the inner loop keeps: t setts more of the sort have been taken. -/
def Inner (n₀ g Bj Bo Bl Bs Bx : Nat) (w W wr : World) (n : Nat) (a2 : Int) (os : List Int) (left : Int) (x : Nat) (sx : S43) : Prop :=
  ∃ (t : Nat) (o lft : Int), o = rd os x + t ∧ t ≤ (sx.f1 - rd os x).toNat ∧ cutIn (sx.f1 - rd os x).toNat sx.f0 a2 left = ((cutIn ((sx.f1 - rd os x).toNat - t) sx.f0 a2 lft).1 + t, (cutIn ((sx.f1 - rd os x).toNat - t) sx.f0 a2 lft).2) ∧ -5 ≤ lft ∧ lft ≤ 400 ∧
    Mem n₀ g Bj Bo Bl w wr n a2 (os.set x o) lft ∧ wr.heap[Bx]? = some (.cells #[.int .i8 sx.f0, .int .i16 sx.f1] 43 (0, 0)) ∧ KeepsOthers W wr ∧ Bw.Kp n₀ Bs W wr
theorem KeepsOthers.drewN (W : World) (n : Nat) : KeepsOthers W (W.drewN n) := ⟨Nat.le_refl _, fun _ _ h _ => h⟩
theorem mem_next {n₀ g : Nat} {w wr : World} {n : Nat} {a2 : Int} {os : List Int} {lft : Int} {x : Nat} (hn : n₀ < g) (hM : Mem n₀ g n₀ (g + 1) (g + 1 + 1) w wr n a2 os lft) (nq : Nat) (o l' : Int) :
    Mem n₀ g n₀ (g + 1) (g + 1 + 1) w (((wr.drewN nq).setCell ⟨g, x, none⟩ (.int .i64 o)).setCell ⟨g + 1 + 1, 0, none⟩ (.int .i64 l')) n a2 (os.set x o) l' ∧
    (∀ k, k ≠ g → k ≠ g + 1 + 1 → (((wr.drewN nq).setCell ⟨g, x, none⟩ (.int .i64 o)).setCell ⟨g + 1 + 1, 0, none⟩ (.int .i64 l')).heap[k]? = wr.heap[k]?) ∧
    KeepsOthers wr (((wr.drewN nq).setCell ⟨g, x, none⟩ (.int .i64 o)).setCell ⟨g + 1 + 1, 0, none⟩ (.int .i64 l')) ∧
    Below n₀ wr (((wr.drewN nq).setCell ⟨g, x, none⟩ (.int .i64 o)).setCell ⟨g + 1 + 1, 0, none⟩ (.int .i64 l')) := by
  have hk : ∀ k, k ≠ g → k ≠ g + 1 + 1 → (((wr.drewN nq).setCell ⟨g, x, none⟩ (.int .i64 o)).setCell ⟨g + 1 + 1, 0, none⟩ (.int .i64 l')).heap[k]? = wr.heap[k]? := fun k h1 h2 =>
    (Below.heap_setCell _ ⟨g + 1 + 1, 0, none⟩ _ k h2).trans (Below.heap_setCell (wr.drewN nq) ⟨g, x, none⟩ _ k h1)
  have hb : Below n₀ wr (((wr.drewN nq).setCell ⟨g, x, none⟩ (.int .i64 o)).setCell ⟨g + 1 + 1, 0, none⟩ (.int .i64 l')) := ((pw_below_drewN (Below.refl n₀ wr) nq).setCell (p := ⟨g, x, none⟩) (by show n₀ ≤ g; omega) _).setCell (p := ⟨g + 1 + 1, 0, none⟩) (by show n₀ ≤ g + 1 + 1; omega) _
  refine ⟨⟨?_, ?_, ?_, ?_, ?_, ?_⟩, hk, ((KeepsOthers.drewN wr nq).trans (KeepsOthers.setCell _ _ _)).trans (KeepsOthers.setCell _ _ _), hb⟩
  · exact (Below.heap_setCell _ ⟨g + 1 + 1, 0, none⟩ _ g (by show g ≠ g + 1 + 1; omega)).trans (blk_put (show (wr.drewN nq).heap[g]? = _ from hM.row) x _ (cells_set os x o))
  · exact (hk (g + 1) (by omega) (by omega)).trans hM.box
  · have h1 : Boxed ((wr.drewN nq).setCell ⟨g, x, none⟩ (.int .i64 o)) (g + 1 + 1) 2 (.int .i64 lft) := (Below.heap_setCell (wr.drewN nq) ⟨g, x, none⟩ _ (g + 1 + 1) (by show g + 1 + 1 ≠ g; omega)).trans hM.left
    exact h1.set _
  · exact (hk n₀ (by omega) (by omega)).trans hM.joint
  · exact hM.below.trans hb
  · skip
    exact Nat.lt_of_lt_of_le hM.size hb.size
theorem inner_next {n₀ g Bx : Nat} {w W wr : World} {n : Nat} {a2 : Int} {os : List Int} {left : Int} {x : Nat} {sx : S43} (hn : n₀ < g) (hBx : g + 1 + 1 + 1 < Bx) (t : Nat) (o lft : Int) (nq : Nat)
    (hC : o = rd os x + t ∧ t ≤ (sx.f1 - rd os x).toNat ∧ cutIn (sx.f1 - rd os x).toNat sx.f0 a2 left = ((cutIn ((sx.f1 - rd os x).toNat - t) sx.f0 a2 lft).1 + t, (cutIn ((sx.f1 - rd os x).toNat - t) sx.f0 a2 lft).2))
    (c1 : o < sx.f1) (c2 : sx.f0 ≤ lft) (hw : 1 ≤ sx.f0) (hj0 : 0 ≤ a2) (hj5 : a2 ≤ 5) (e2 : lft ≤ 400)
    (hM : Mem n₀ g n₀ (g + 1) (g + 1 + 1) w wr n a2 (os.set x o) lft) (hX : wr.heap[Bx]? = some (.cells #[.int .i8 sx.f0, .int .i16 sx.f1] 43 (0, 0))) (hKO : KeepsOthers W wr) (hKp : Bw.Kp n₀ (g + 1 + 1 + 1) W wr) :
    Inner n₀ g n₀ (g + 1) (g + 1 + 1) (g + 1 + 1 + 1) Bx w W (((wr.drewN nq).setCell ⟨g, x, none⟩ (.int .i64 (o + 1))).setCell ⟨g + 1 + 1, 0, none⟩ (.int .i64 (lft - (sx.f0 + a2)))) n a2 os left x sx := by
  obtain ⟨h1, h2, h3⟩ := hC
  obtain ⟨m1, m2, m3, m4⟩ := mem_next (x := x) hn hM nq (o + 1) (lft - (sx.f0 + a2))
  rw [List.set_set] at m1
  obtain ⟨d, hd⟩ : ∃ d, (sx.f1 - rd os x).toNat - t = d + 1 := ⟨(sx.f1 - rd os x).toNat - t - 1, by omega⟩
  refine ⟨t + 1, o + 1, lft - (sx.f0 + a2), by omega, by omega, ?_, by omega, by omega, m1, (m2 Bx (by omega) (by omega)).trans hX, hKO.trans m3, hKp.1.trans m4, (m2 _ (by omega) (by omega)).trans hKp.2⟩
  rw [h3, hd, show (sx.f1 - rd os x).toNat - (t + 1) = d by omega, cutIn, if_pos c2]
  exact Prod.ext (by show _ + 1 + t = _ + (t + 1); omega) rfl
theorem Mem.drewN {n₀ g Bj Bo Bl : Nat} {w W : World} {n : Nat} {a2 : Int} {os : List Int} {left : Int} (h : Mem n₀ g Bj Bo Bl w W n a2 os left) (k : Nat) : Mem n₀ g Bj Bo Bl w (W.drewN k) n a2 os left :=
  ⟨h.row, h.box, h.left, h.joint, pw_below_drewN h.below k, h.size⟩
theorem cutIn_stop {n : Nat} {w j l : Int} (h : n = 0 ∨ l < w) : cutIn n w j l = (0, l) := by
  cases n with
  | zero => rfl
  | succ n => rw [cutIn, if_neg (by omega)]
theorem step_end {os : List Int} {left a2 lft o : Int} {x t : Nat} {sx : S43} (hC : o = rd os x + t ∧ t ≤ (sx.f1 - rd os x).toNat ∧ cutIn (sx.f1 - rd os x).toNat sx.f0 a2 left = ((cutIn ((sx.f1 - rd os x).toNat - t) sx.f0 a2 lft).1 + t, (cutIn ((sx.f1 - rd os x).toNat - t) sx.f0 a2 lft).2))
    (h : sx.f1 ≤ o ∨ lft < sx.f0) : os.set x (rd os x + (cutIn (sx.f1 - rd os x).toNat sx.f0 a2 left).1) = os.set x o ∧ (cutIn (sx.f1 - rd os x).toNat sx.f0 a2 left).2 = lft := by
  obtain ⟨h1, h2, h3⟩ := hC
  rw [cutIn_stop (n := (sx.f1 - rd os x).toNat - t) (by omega)] at h3
  rw [h3]
  exact ⟨by rw [h1]; congr 2; show ((0 + t : Nat) : Int) = _; omega, rfl⟩
theorem R_row {W : World} {n₀ g : Nat} {os : List Int} (h : W.heap[g]? = some (.cells (cells os) 2 (0, 0))) (hg : n₀ ≤ g) (hl : os.length ≤ 1000) : Kd.R (Kd.int .i64) 2 W n₀ (fun _ => True) (.slice (some ⟨g, 0, none⟩) os.length os.length) os := by
  refine ⟨fun _ _ => trivial, os.map (Value.int .i64), ⟨by show (os.map _).length = os.length * 1; simp, .inr ⟨g, os.length, _, rfl, hg, h, Nat.le_refl _, by simp only [maxLen]; omega, by show (cells os).size = os.length * 1; simp [cells], ?_⟩⟩, by show (os.map _).length = os.length * 1; simp, fun j p hp => ?_⟩
  · show (cells os).toList.take (os.length * 1) = _
    rw [Nat.mul_one]
    simp only [cells]
    rw [List.take_of_length_le (by simp)]
  · obtain ⟨hj, he⟩ := List.getElem?_eq_some_iff.1 hp
    show ((os.map (Value.int .i64)).drop (j * 1)).take 1 = [.int .i64 p]
    rw [Nat.mul_one, ← List.map_drop, List.drop_eq_getElem_cons hj, he]
    rfl
theorem mem_put {n₀ g : Nat} {w wr : World} {n : Nat} {a2 : Int} {os : List Int} {lft : Int} {x : Nat} (hn : n₀ < g) (hM : Mem n₀ g n₀ (g + 1) (g + 1 + 1) w wr n a2 os lft) (nq : Nat) (o : Int) :
    Mem n₀ g n₀ (g + 1) (g + 1 + 1) w ((wr.drewN nq).setCell ⟨g, x, none⟩ (.int .i64 o)) n a2 (os.set x o) lft ∧ (∀ k, k ≠ g → ((wr.drewN nq).setCell ⟨g, x, none⟩ (.int .i64 o)).heap[k]? = wr.heap[k]?) := by
  have hk : ∀ k, k ≠ g → ((wr.drewN nq).setCell ⟨g, x, none⟩ (.int .i64 o)).heap[k]? = wr.heap[k]? := fun k h1 => Below.heap_setCell (wr.drewN nq) ⟨g, x, none⟩ _ k h1
  have hb : Below n₀ wr ((wr.drewN nq).setCell ⟨g, x, none⟩ (.int .i64 o)) := (pw_below_drewN (Below.refl n₀ wr) nq).setCell (p := ⟨g, x, none⟩) (by show n₀ ≤ g; omega) _
  refine ⟨⟨?_, ?_, ?_, ?_, ?_, ?_⟩, hk⟩
  · exact blk_put (show (wr.drewN nq).heap[g]? = _ from hM.row) x _ (cells_set os x o)
  · exact (hk (g + 1) (by omega)).trans hM.box
  · exact (hk (g + 1 + 1) (by omega)).trans hM.left
  · exact (hk n₀ (by omega)).trans hM.joint
  · exact hM.below.trans hb
  · exact Nat.lt_of_lt_of_le hM.size hb.size
theorem find_first {p : Nat → Bool} {n k : Nat} (hk : k < n) (h : p k = true) (hno : ∀ j, j < k → p j = false) : (List.range n).find? p = some k := by
  rw [List.find?_range_eq_some]
  exact ⟨h, List.mem_range.2 hk, fun j hj => by rw [hno j hj]; rfl⟩
set_option maxRecDepth 100000 in
set_option maxHeartbeats 4000000 in
theorem walk (k : Nat) (ad : Addr) (c0 : Nat) (L : List S43) (a1 a2 : Int) (w : World) (hr0 : Kd.C k43 w (some ad) L.length L) (hc0 : L.length ≤ c0) (hcode : impl_rowCode.f k L a1 a2 = some 0) (hok : ok L a1 a2) :
    CallsIn Fence.wide 6 Try.prog 8 #[.slice (some ad) L.length c0, .int .i64 a1, .int .i64 a2] w fun e w' => ∃ v0_ : Value, e = .returned (.tuple #[v0_, .int .i64 (res L a1 a2).2.1, .int .i64 (res L a1 a2).2.2]) ∧ Kd.R (Kd.int .i64) 2 w' w.heap.size (fun _ => True) v0_ (res L a1 a2).1 ∧ Below w.heap.size w w' := by
  have HR0 := Aside0.mk hr0
  have HC0 := Aside0.mk hc0
  have HK := Aside0.mk hcode
  have HO := Aside0.mk hok
  have hl0 : 0 < L.length := hok.1
  have hl6 : L.length ≤ 6 := hok.2.1
  have hadb : ad.block < w.heap.size := by
    obtain ⟨ad', e, h1, h2⟩ := at_T43 hr0 0 (by omega) (by omega)
    obtain rfl : ad = ad' := by injection e
    have := World.block_lt_of_cell? _ _ h1
    rwa [add_block] at this
  clear hr0 hc0 hcode hok
  refine callsIn_of_wp_marks Try.func8 rfl trivial ?_ rfl
  simp only [Try.ntmps8, List.size_toArray, List.length_cons, List.length_nil, Nat.reduceAdd, Nat.reduceSub, Array.replicate_succ, Array.replicate_zero, List.push_toArray, List.append_toArray, List.nil_append, List.cons_append]
  refine wpIn_wide.2 ?_
  go_wp2_with (go_at_call 21; refine (impl_rowCode.calls k (some ad) c0 L a1 a2 0 _ (Kd.C_alloc HR0.out _) HC0.out HK.out).mono ?_; rintro e w1 ⟨rfl, hb1⟩; refine Hid.out ?_)
  refine Lib.hid ?_
  have hz1 : w.heap.size < w1.heap.size := by have := hb1.size; simp at this; omega
  have bj1 : Boxed w1 w.heap.size 2 (.int .i64 a2) := (hb1.block w.heap.size (by simp)).trans (Boxed.new w 2 (.int .i64 a2))
  have HB1 := Lib.hid (((Below.refl w.heap.size w).alloc (Nat.le_refl _) (.cells #[.int .i64 a2] 2)).trans (hb1.mono (by simp)))
  have HJ := Lib.hid bj1
  clear hb1 bj1
  have hmk := make_n L.length (by omega)
  generalize hZ : cells (List.replicate L.length 0) = Z at hmk
  have HZ := Lib.hid hZ
  clear hZ
  go_wp2_with (go_at_call 22; refine ((callsIn_wide (n := 5)).1 (Bw.call_in 5 _ _ _ _)).mono ?_; rintro e w2 ⟨rfl, rfl⟩; refine Hid.out ?_)
  refine Lib.hid ?_
  obtain ⟨f1, f2, f3, f4, f5, f6⟩ := four w1 (.cells Z 2) (.cells #[.slice (some ⟨w1.heap.size, 0, none⟩) L.length L.length] 24) (.cells #[.int .i64 a1] 2) (.cells #[.slice (some ad) L.length c0] 27)
  have hbj := (Below.heap_alloc _ (.cells #[.slice (some ad) L.length c0] 27) _ (by simp; omega)).trans ((Below.heap_alloc _ (.cells #[.int .i64 a1] 2) _ (by simp; omega)).trans ((Below.heap_alloc _ (.cells #[.slice (some ⟨w1.heap.size, 0, none⟩) L.length L.length] 24) _ (by simp; omega)).trans ((Below.heap_alloc w1 (.cells Z 2) w.heap.size hz1).trans HJ.out)))
  have hB := f6 w.heap.size w (Nat.le_refl _) HB1.out
  clear f6
  generalize ((((w1.alloc (.cells Z 2)).alloc (.cells #[.slice (some ⟨w1.heap.size, 0, none⟩) L.length L.length] 24)).alloc (.cells #[.int .i64 a1] 2)).alloc (.cells #[.slice (some ad) L.length c0] 27)) = W2 at f1 f2 f3 f4 f5 hbj hB ⊢
  rw [← HZ.out] at f1
  generalize w1.heap.size = g at *
  have m0 : Mem w.heap.size g w.heap.size (g + 1) (g + 1 + 1) w W2 L.length a2 (List.replicate L.length 0) a1 := ⟨f1, f2, f3, hbj, hB, by omega⟩
  have HF4 := Lib.hid f4
  have HF5 := Lib.hid f5
  have HM := Lib.hid m0
  have hC2 : Kd.C k43 W2 (some ad) L.length L := Kd.C_below HR0.out (hB.mono (Nat.le_refl _))
  have HC2 := Lib.hid hC2
  clear f1 f2 f3 f4 f5 hbj hB m0 hC2 hmk HJ HB1 HZ Z
  go_wp2
  refine (wpIn_wide (n := 6)).1 ?_
  refine wpIn_rangeFunc_ownH (F := Fence.wide) (n := 6) (α := Fin L.length) rfl (by decide) (gf := 34) (lb := #[.pointer (some ⟨g + 1 + 1 + 1, 0, none⟩)]) rfl trivial (enters_of Try.func34 (by kernel_rfl) rfl)
    (Bw.stops 5 (by decide) (g + 1 + 1 + 1) w.heap.size ad c0 L hl0 (by omega) W2 (by rw [HF5.out]; omega) (by rw [HF5.out]; omega) HF4.out hadb HC2.out)
    (fun h h' => Bw.Kp.trans h h') (fun W l o o' hl ho hc hw => ⟨(Below.refl _ W).grown (grownBy_putObj' W l o') (by have := (Array.getElem?_eq_some_iff.1 ho).1; rw [HF5.out] at hl; omega) (fun k e => by cases e; rw [HF5.out] at hl; omega), World.putObj_heap_other (by rw [HF5.out] at hl; omega)⟩) (Below.refl _ _) (fun _ => rfl)
    (fun pre W => Sane L (run L a2 a1 (pre.map fun i => i.1)).1 (run L a2 a1 (pre.map fun i => i.1)).2 ∧ Mem w.heap.size g w.heap.size (g + 1) (g + 1 + 1) w W L.length a2 (run L a2 a1 (pre.map fun i => i.1)).1 (run L a2 a1 (pre.map fun i => i.1)).2)
    (fun _ _ _ => False)
    (OwnFrom.and (ownFrom_pure _ _) (Mem.own _ _ _ _ _ _ _ _ _ _ _ (Nat.le_refl _) (by rw [HF5.out]; omega)))
    (fun _ _ _ _ _ hs _ _ => hs)
    ⟨sane_start HO.out, HM.out⟩
    (fun x a' W => ∃ Bx, g + 1 + 1 + 1 < Bx ∧ W.heap[Bx]? = some (.cells #[.int .i8 (L[x]).f0, .int .i16 (L[x]).f1] 43 (0, 0)) ∧ a' = { tmps := #[.slice (some ad) L.length c0, .int .i64 a1, .int .i64 a2, undef, undef, .pointer (some ⟨w.heap.size, 0, none⟩), .slice none 0 0, .int .i64 0, .int .i64 0, .int .i64 0, .pointer (some ⟨g + 1, 0, none⟩), .pointer (some ⟨g + 1 + 1, 0, none⟩), .int .i64 ((x.1 : Nat) : Int), .pointer (some ⟨Bx, 0, none⟩), undef, undef, .slice (some ad) L.length c0, .int .i64 a1, .int .i64 a2, .int .i64 0, .int .i64 0, .bool false, undef, .slice (some ad) L.length c0, .int .i64 (L.length : Int), .slice (some ⟨g, 0, none⟩) L.length L.length, .int .i64 a1, .slice (some ad) L.length c0, .func (.func 34) #[] #[.pointer (some ⟨g + 1 + 1 + 1, 0, none⟩)], .int .i64 ((x.1 : Nat) : Int), Bw.enc L[x], undef, undef, undef, undef, undef, undef, undef, undef, undef, undef, undef, undef, undef, undef, undef, undef, undef, undef, undef, undef, undef, undef, undef, undef, undef, undef, undef, undef, undef, undef, undef, undef, undef, undef, undef, undef, undef, undef, undef, undef, undef, undef, undef, undef, undef, undef, undef, undef, undef, undef, undef, undef, undef, undef, undef, undef, undef, undef, undef, undef, undef, undef, undef, undef, undef, undef], defers := [] })
    (fun x a' s A B row hs hg hr => by obtain ⟨Bx, h1, h2, h3⟩ := hs; exact ⟨Bx, h1, cells_kept h2 hg (fun r e => (hr r e).2), h3⟩)
    ?assign ?body ?done ?stop
  case stop =>
    rintro D c pre W _ _ h _
    exact h.elim
  case assign =>
    rintro l pre x W K ⟨hs, hm⟩ hK
    have hg3 := hm.size
    simp only [Bw.enc, Fin.getElem_fin] at hK ⊢
    gi_wp2
    refine hK _ _ ((KeepsOthers.alloc _ _).from _) ⟨(Below.refl _ W).alloc hm.below.size _, Below.heap_alloc W _ _ (by omega)⟩ ⟨hs, Mem.own W.heap.size _ _ _ _ _ _ _ _ (fun _ => _) (fun _ => _) (Nat.le_refl _) (by exact hm.below.size) () W _ none hm (World.grownBy_alloc W _ none) (fun r e => by cases e)⟩ ⟨W.heap.size, hg3, World.alloc_heap_new W _, rfl⟩
  case body =>
    rintro l pre ⟨xi, hxl⟩ a' W hl hrec ⟨hs, hm⟩ ⟨Bx, hBx, bX, rfl⟩ hlt
    obtain ⟨st, hst⟩ : ∃ st, run L a2 a1 (pre.map fun i => i.1) = st := ⟨_, rfl⟩
    have hrun : run L a2 a1 ((pre ++ [(⟨xi, hxl⟩ : Fin L.length)]).map fun i => i.1) = step L a2 st xi := by rw [List.map_append, List.map_singleton, run_snoc, hst]
    rw [hst] at hs hm
    obtain ⟨b1, b2, b3, b4⟩ := rd_ok HO.out xi hxl
    have hss := sane_step HO.out hs xi hxl
    rw [← hrun] at hss
    have hj0 : 0 ≤ a2 := HO.out.2.2.2.2.1
    have hj5 : a2 ≤ 5 := HO.out.2.2.2.2.2.1
    have hsx : L[(⟨xi, hxl⟩ : Fin L.length)] = rd_T43 L (xi : Int) := by
      unfold rd_T43
      rw [Int.toNat_natCast, List.getD_eq_getElem?_getD, Fin.getElem_fin, List.getElem?_eq_getElem hxl]
      rfl
    have HS := Lib.hid hss
    have HR := Lib.hid hrun
    have hos := hs.1
    obtain ⟨o1, o2⟩ := hs.2.1 xi hxl
    have hl1 := hs.2.2.1
    have hl2 := hs.2.2.2
    rw [hsx] at bX ⊢
    have hstep : step L a2 st xi = (st.1.set xi (rd st.1 xi + (cutIn ((rd_T43 L xi).f1 - rd st.1 xi).toNat (rd_T43 L xi).f0 a2 st.2).1), (cutIn ((rd_T43 L xi).f1 - rd st.1 xi).toNat (rd_T43 L xi).f0 a2 st.2).2) := rfl
    generalize rd_T43 L (xi : Int) = sx at *
    have HST := Lib.hid hstep
    have HOS := Lib.hid hos
    clear hst hss hrun hsx hs hstep hos
    simp only [Bw.enc]
    gi_wp2
    gi_loopw [31] (fun _ wr => Inner w.heap.size g w.heap.size (g + 1) (g + 1 + 1) (g + 1 + 1 + 1) Bx w W wr L.length a2 st.1 st.2 xi sx) (fun _ wr => (60 - intOf ((wr.cell? ⟨g, xi, none⟩).getD undef)).toNat)
    case atStart =>
      refine ⟨0, rd st.1 xi, st.2, by simp, Nat.zero_le _, by simp, hl1, hl2, ?_, bX, KeepsOthers.refl _, Bw.Kp.refl _ _ _⟩
      rw [set_rd _ _ (by rw [HOS.out]; exact hxl)]
      exact hm
    case round =>
      obtain ⟨t, o, lft, ho, ht, hcut, e1, e2, hM, hX, hKO, hKp⟩ := hrel
      have hcell : wr.cell? ⟨g, xi, none⟩ = some (.int .i64 o) := by
        have h1 := cells_at hM.row xi (by rw [List.length_set, HOS.out]; exact hxl)
        rwa [rd_set _ _ _ _ (by rw [HOS.out]; exact hxl), if_pos rfl] at h1
      have hfr : wr.frozen? ⟨g, xi, none⟩ = false := blk_frozen hM.row xi
      have hbo := hM.box.cell
      have hbl := hM.left.cell
      have hblf := hM.left.frozen
      have hbj := hM.joint.cell
      have hx0 : wr.cell? ⟨Bx, 0, none⟩ = some (.int .i8 sx.f0) := by rw [blk_cell hX]; rfl
      have hx1 : wr.cell? ⟨Bx, 1, none⟩ = some (.int .i16 sx.f1) := by rw [blk_cell hX]; rfl
      have p1 : 0 ≤ o := by omega
      have p2 : o ≤ 60 := by omega
      have p3 : (xi : Int) < (L.length : Int) := by omega
      have p4 : (0 : Int) ≤ (xi : Int) := by omega
      have HC := Lib.hid (And.intro ho (And.intro ht hcut))
      clear ho ht hcut
      by_cases c1 : o < sx.f1
      · have d1 : decide (o < sx.f1) = true := decide_eq_true c1
        by_cases c2 : sx.f0 ≤ lft
        · have d2 : decide (sx.f0 ≤ lft) = true := decide_eq_true c2
          gi_wp2
          refine wpInR_region_quiet_lit (by kernel_rfl) (by kernel_rfl) (by kernel_rfl) ?_
          repeat (go_big_quiet_step (fail))
          refine wpQuiet_nil ?_
          rintro _ ⟨nq, rfl⟩
          gi_wp2
          have hin := inner_next hz1 hBx t o lft nq HC.out c1 c2 b1 hj0 hj5 e2 hM hX hKO hKp
          refine ⟨hin, ?_⟩
          have hc' := cells_at (mem_next (x := xi) hz1 hM nq (o + 1) (lft - (sx.f0 + a2))).1.row xi (by rw [List.length_set, List.length_set, HOS.out]; exact hxl)
          rw [rd_set _ _ _ _ (by rw [List.length_set, HOS.out]; exact hxl), if_pos rfl] at hc'
          rw [hc', hcell]
          simp [intOf]
          omega
        · have d2 : decide (sx.f0 ≤ lft) = false := decide_eq_false c2
          gi_wp2
          refine wpInR_region_quiet_lit (by kernel_rfl) (by kernel_rfl) (by kernel_rfl) ?_
          repeat (go_big_quiet_step (fail))
          refine wpQuiet_nil ?_
          rintro _ ⟨nq, rfl⟩
          gi_wp2
          refine ⟨(hKO.trans (KeepsOthers.drewN wr nq)).from _, ⟨pw_below_drewN hKp.1 nq, hKp.2⟩, HS.out, ?_⟩
          have he := step_end HC.out (.inr (by omega))
          rw [HR.out, HST.out]
          dsimp only
          rw [he.1, he.2]
          exact hM.drewN nq
      · have d1 : decide (o < sx.f1) = false := decide_eq_false c1
        gi_wp2
        refine wpInR_region_quiet_lit (by kernel_rfl) (by kernel_rfl) (by kernel_rfl) ?_
        repeat (go_big_quiet_step (fail))
        refine wpQuiet_nil ?_
        rintro _ ⟨nq, rfl⟩
        gi_wp2
        refine ⟨(hKO.trans (KeepsOthers.drewN wr nq)).from _, ⟨pw_below_drewN hKp.1 nq, hKp.2⟩, HS.out, ?_⟩
        have he := step_end HC.out (.inl (by omega))
        rw [HR.out, HST.out]
        dsimp only
        rw [he.1, he.2]
        exact hM.drewN nq
  case done =>
    rintro D ys W hD rfl ⟨hs, hm⟩ hK
    have hru : run L a2 a1 ((Bw.upto L.length hl0 L.length).map fun i => i.1) = run L a2 a1 ((List.range L.length).map fun k => L.length - 1 - k) := by
      unfold Bw.upto
      rw [List.map_map]
      rfl
    rw [hru] at hs hm
    have hres : res L a1 a2 = fin L (run L a2 a1 ((List.range L.length).map fun k => L.length - 1 - k)).1 (run L a2 a1 ((List.range L.length).map fun k => L.length - 1 - k)).2 := rfl
    generalize (run L a2 a1 ((List.range L.length).map fun k => L.length - 1 - k)).1 = os at *
    generalize (run L a2 a1 ((List.range L.length).map fun k => L.length - 1 - k)).2 = lft at *
    have HRES := Lib.hid hres
    clear hres hru
    have hbl := hm.left.cell
    have hbo := hm.box.cell
    have HKD := Lib.hid hK
    clear hK
    by_cases c1 : lft ≤ 0
    · have d1 : decide (lft ≤ 0) = true := decide_eq_true c1
      go_wp2
      have hKD := HKD.out
      have hBE := hm.below.trans (belowK_b (w := w) (Nat.le_refl _) W D _ (.deferred none) (by rw [HF5.out] at hD; omega) hKD rfl rfl)
      have hRE : (W.putObj D (.deferred none)).heap[g]? = some (.cells (cells os) 2 (0, 0)) := (World.putObj_heap_other (by rw [HF5.out] at hD; omega)).trans hm.row
      refine ⟨by simp, .inl ⟨_, _, rfl, run_takeDeferred hKD, ?_⟩⟩
      rw [HRES.out, fin, if_pos c1]
      refine ⟨_, results_tmp3 rfl _ _ _, _, rfl, ?_, hBE⟩
      have hR := R_row hRE (Nat.le_of_lt hz1) (by have := hs.1; omega)
      rwa [hs.1] at hR
    · have d1 : decide (lft ≤ 0) = false := decide_eq_false c1
      go_wp2
      go_loopw [64] (fun i wr => ∃ k : Nat, k ≤ L.length ∧ i = .int .i64 k ∧ Hid (∀ j, j < k → good L os lft j = false) ∧ Mem w.heap.size g w.heap.size (g + 1) (g + 1 + 1) w wr L.length a2 os lft ∧ Hid (wr.heap[D]? = some (.deferred (some [])))) (fun i _ => L.length - (intOf i).toNat)
      case atStart => exact ⟨0, Nat.zero_le _, rfl, Lib.hid (fun j hj => absurd hj (by omega)), hm, HKD⟩
      case round =>
        obtain ⟨k', hk, rfl, hno, hM, hKD⟩ := hrel
        have p3 : (L.length : Int) ≤ 6 := by omega
        by_cases hlt : k' < L.length
        · have p1 : (k' : Int) < (L.length : Int) := by omega
          obtain ⟨ad', e, hx0, hx1⟩ := at_T43 (Kd.C_below HR0.out (hM.below.mono (Nat.le_refl _))) (k' : Int) (by omega) p1
          obtain rfl : ad = ad' := by injection e
          rw [Int.toNat_natCast] at hx0 hx1
          obtain ⟨b1, b2, b3, b4⟩ := rd_ok HO.out k' hlt
          have hg0 : good L os lft k' = (decide (lft ≤ (rd_T43 L k').f0) && decide (rd os k' < (rd_T43 L k').f1)) := rfl
          have HG := Lib.hid hg0
          clear hg0 e
          go_wp2
          have hB1 := (Below.refl w.heap.size wr).alloc hM.below.size (.cells #[.int .i8 (rd_T43 L k').f0, .int .i16 (rd_T43 L k').f1] 43)
          have hMV := Mem.own wr.heap.size _ _ _ _ _ _ _ _ (fun _ => _) (fun _ => _) (Nat.le_refl _) hM.below.size () wr _ none hM (World.grownBy_alloc wr (.cells #[.int .i8 (rd_T43 L k').f0, .int .i16 (rd_T43 L k').f1] 43) none) (fun r e => by cases e)
          have hKV := (Below.heap_alloc wr (.cells #[.int .i8 (rd_T43 L k').f0, .int .i16 (rd_T43 L k').f1] 43) D (Array.getElem?_eq_some_iff.1 hKD.out).1).trans hKD.out
          have hXV := World.alloc_heap_new wr (.cells #[.int .i8 (rd_T43 L k').f0, .int .i16 (rd_T43 L k').f1] 43)
          clear hx0 hx1 hB1
          have hBx := hM.size
          generalize wr.alloc (.cells #[.int .i8 (rd_T43 L k').f0, .int .i16 (rd_T43 L k').f1] 43) = V at *
          generalize wr.heap.size = Bx at *
          have hcell := cells_at hMV.row k' (by rw [hs.1]; exact hlt)
          have hfr : V.frozen? ⟨g, k', none⟩ = false := blk_frozen hMV.row k'
          have hbo' := hMV.box.cell
          have hbl' := hMV.left.cell
          have hx0 : V.cell? ⟨Bx, 0, none⟩ = some (.int .i8 (rd_T43 L k').f0) := by rw [blk_cell hXV]; rfl
          have hx1 : V.cell? ⟨Bx, 1, none⟩ = some (.int .i16 (rd_T43 L k').f1) := by rw [blk_cell hXV]; rfl
          have HKV := Lib.hid hKV
          clear hKV hKD hXV
          obtain ⟨o1, o2⟩ := hs.2.1 k' hlt
          have l1 := hs.2.2.1
          have l2 := hs.2.2.2
          generalize hsx : rd_T43 L (k' : Int) = sx at *
          have HSX := Lib.hid hsx
          clear hsx
          by_cases c2 : lft ≤ sx.f0
          · have d2 : decide (lft ≤ sx.f0) = true := decide_eq_true c2
            have d2' : decide (sx.f0 ≥ lft) = true := decide_eq_true c2
            by_cases c3 : rd os k' < sx.f1
            · have d3 : decide (rd os k' < sx.f1) = true := decide_eq_true c3
              refine wp_region_quiet_lit (by kernel_rfl) (by kernel_rfl) ?_
              repeat (go_big_quiet_step (fail))
              refine wpQuiet_nil ?_
              rintro _ ⟨nq, rfl⟩
              go_wp2
              obtain ⟨hM2, hk2⟩ := mem_put (x := k') hz1 hMV nq (rd os k' + 1)
              have hX0 : ((V.drewN nq).setCell ⟨g, k', none⟩ (.int .i64 (rd os k' + 1))).cell? ⟨Bx, 0, none⟩ = some (.int .i8 sx.f0) := (by
                have e := hk2 Bx (by omega)
                unfold World.cell? at hx0 ⊢
                rw [e]
                exact hx0)
              have hKV2 := (hk2 D (by rw [HF5.out] at hD; omega)).trans HKV.out
              have hbo2 := hM2.box.cell
              have hbl2 := hM2.left.cell
              clear hcell hfr hbo' hbl' hx0 hx1 hk2
              generalize (V.drewN nq).setCell ⟨g, k', none⟩ (.int .i64 (rd os k' + 1)) = V2 at *
              have HKV2 := Lib.hid hKV2
              clear hKV2
              refine wp_region_quiet_lit (by kernel_rfl) (by kernel_rfl) ?_
              repeat (go_big_quiet_step (fail))
              refine wpQuiet_nil ?_
              rintro _ ⟨nq2, rfl⟩
              go_wp2
              have hM3 := hM2.drewN nq2
              have hKD3 : (V2.drewN nq2).heap[D]? = some (.deferred (some [])) := HKV2.out
              generalize V2.drewN nq2 = V3 at *
              have hBE := hM3.below.trans (belowK_b (w := w) (Nat.le_refl _) V3 D _ (.deferred none) (by rw [HF5.out] at hD; omega) hKD3 rfl rfl)
              have hRE : (V3.putObj D (.deferred none)).heap[g]? = some (.cells (cells (os.set k' (rd os k' + 1))) 2 (0, 0)) := (World.putObj_heap_other (by rw [HF5.out] at hD; omega)).trans hM3.row
              refine ⟨by simp, .inl ⟨_, _, rfl, run_takeDeferred hKD3, ?_⟩⟩
              rw [HRES.out, fin, if_neg (by omega), find_first hlt (by rw [HG.out, d2, d3]; rfl) hno.out]
              dsimp only
              rw [HSX.out]
              refine ⟨_, results_tmp3 rfl _ _ _, _, rfl, ?_, hBE⟩
              have hR := R_row hRE (Nat.le_of_lt hz1) (by rw [List.length_set]; have := hs.1; omega)
              rw [List.length_set, hs.1] at hR
              exact hR
            · have d3 : decide (rd os k' < sx.f1) = false := decide_eq_false c3
              refine wp_region_quiet_lit (by kernel_rfl) (by kernel_rfl) ?_
              repeat (go_big_quiet_step (fail))
              refine wpQuiet_nil ?_
              rintro _ ⟨nq, rfl⟩
              go_wp2
              refine ⟨⟨k' + 1, by omega, by simp, ?_, hMV.drewN nq, HKV⟩, by simp [intOf]; omega⟩
              refine Lib.hid fun j hj => ?_
              rcases Nat.lt_or_ge j k' with h | h
              · exact hno.out j h
              · obtain rfl : j = k' := by omega
                rw [HG.out, d2, d3]; rfl
          · have d2 : decide (lft ≤ sx.f0) = false := decide_eq_false c2
            have d2' : decide (sx.f0 ≥ lft) = false := decide_eq_false c2
            refine wp_region_quiet_lit (by kernel_rfl) (by kernel_rfl) ?_
            repeat (go_big_quiet_step (fail))
            refine wpQuiet_nil ?_
            rintro _ ⟨nq, rfl⟩
            go_wp2
            refine ⟨⟨k' + 1, by omega, by simp, ?_, hMV.drewN nq, HKV⟩, by simp [intOf]; omega⟩
            refine Lib.hid fun j hj => ?_
            rcases Nat.lt_or_ge j k' with h | h
            · exact hno.out j h
            · obtain rfl : j = k' := by omega
              rw [HG.out, d2]; rfl
        · obtain rfl : k' = L.length := by omega
          go_wp2
          have hBE := hM.below.trans (belowK_b (w := w) (Nat.le_refl _) wr D _ (.deferred none) (by rw [HF5.out] at hD; omega) hKD.out rfl rfl)
          refine ⟨by simp, .inl ⟨_, _, rfl, run_takeDeferred hKD.out, ?_⟩⟩
          have hfn : (List.range L.length).find? (good L os lft) = none := List.find?_eq_none.2 fun j hj => by rw [hno.out j (List.mem_range.1 hj)]; decide
          rw [HRES.out, fin, if_neg (by omega), hfn]
          exact ⟨_, results_tmp3 rfl _ _ _, _, rfl, Kd.R_nil _ _ _ _ _, hBE⟩
end Cr
end Go.Proofs.Ytnabkphkdkdigaa.Q
