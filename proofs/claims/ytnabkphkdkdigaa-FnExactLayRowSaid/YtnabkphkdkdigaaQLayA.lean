import Derived.Test.YtnabkphkdkdigaaQCutB
namespace Go.Proofs.Ytnabkphkdkdigaa.Q
open Go.RowKit Go.Shelf Go.Proofs.YtnabkphkdkdigaaW.PrintWords Go.Proofs.YtnabkphkdkdigaaW.PrintLast Go.Proofs.YtnabkphkdkdigaaW.PrintMore
set_option linter.unusedVariables false
set_option linter.unusedSimpArgs false
attribute [local go_sem] Oper.semAt_some
namespace Ly
theorem cells_kept {W W' : World} {row : Option Nat} {b : Nat} {c : Array Value} {t : TypeId} (h : W.heap[b]? = some (.cells c t (0, 0))) (hg : W.grownBy W' row) (hr : ∀ r, row = some r → ∃ o : Obj, W.heap[r]? = some o ∧ o.isCells = false) : W'.heap[b]? = some (.cells c t (0, 0)) := by
  refine (hg.block b (Array.getElem?_eq_some_iff.1 h).1 fun e => ?_).trans h
  obtain ⟨o, ho, hc⟩ := hr b e.symm
  rw [h] at ho
  cases ho
  cases hc
def step (L : List S43) (st : List Int × List Int) (i : Nat) : List Int × List Int := if 0 < rd st.1 i then (st.1.set i (rd st.1 i - 1), st.2 ++ [(rd_T43 L i).f0]) else st
def run (L : List S43) (st : List Int × List Int) (is : List Nat) : List Int × List Int := is.foldl (step L) st
def backs (n : Nat) : List Nat := (List.range n).map fun k => n - 1 - k
/-- Rounds until so many have been laid. -/
def laps (L : List S43) (many : Int) : Nat → List Int × List Int → Option (List Int)
  | 0, _ => none
  | k + 1, st => if (st.2.length : Int) < many then laps L many k (run L st (backs L.length)) else some st.2
def big (L : List S43) (c : List Int) (i : Nat) : Bool := decide ((rd_T43 L i).f1 < rd c i)
def ok (L : List S43) (c : List Int) : Prop := 0 < L.length ∧ L.length ≤ 6 ∧ c.length = L.length ∧ c.sum ≤ 360 ∧ (∀ s ∈ L, 1 ≤ s.f0 ∧ s.f0 ≤ 20 ∧ 0 ≤ s.f1 ∧ s.f1 ≤ 60) ∧ ∀ n ∈ c, 0 ≤ n ∧ n ≤ 60
instance (L : List S43) (c : List Int) : Decidable (ok L c) := by unfold ok; infer_instance
def Sane (L : List S43) (st : List Int × List Int) (m : Nat) : Prop := st.1.length = L.length ∧ (∀ i : Nat, i < L.length → 0 ≤ rd st.1 i ∧ rd st.1 i ≤ 60) ∧ st.2.length ≤ m
theorem run_snoc (L : List S43) (st : List Int × List Int) (is : List Nat) (i : Nat) : run L st (is ++ [i]) = step L (run L st is) i := by simp [run]
theorem sane_step {L : List S43} {st : List Int × List Int} {m : Nat} (h : Sane L st m) (i : Nat) (hi : i < L.length) : Sane L (step L st i) (m + 1) := by
  obtain ⟨h1, h2, h3⟩ := h
  unfold step
  by_cases c : 0 < rd st.1 i
  · rw [if_pos c]
    refine ⟨by simpa using h1, fun j hj => ?_, by show (st.2 ++ [_]).length ≤ _; rw [List.length_append, List.length_singleton]; omega⟩
    show 0 ≤ rd (st.1.set i (rd st.1 i - 1)) j ∧ rd (st.1.set i (rd st.1 i - 1)) j ≤ 60
    rw [Cr.rd_set _ _ _ _ (by omega)]
    have := h2 j hj
    have := h2 i hi
    split
    · omega
    · omega
  · rw [if_neg c]
    exact ⟨h1, h2, by omega⟩
theorem rd_ok {L : List S43} {c : List Int} (h : ok L c) (i : Nat) (hi : i < L.length) : 1 ≤ (rd_T43 L i).f0 ∧ (rd_T43 L i).f0 ≤ 20 ∧ 0 ≤ (rd_T43 L i).f1 ∧ (rd_T43 L i).f1 ≤ 60 := by
  have e : rd_T43 L i = L[i] := by
    unfold rd_T43
    rw [Int.toNat_natCast, List.getD_eq_getElem?_getD, List.getElem?_eq_getElem hi]
    rfl
  rw [e]
  exact h.2.2.2.2.1 _ (List.getElem_mem hi)
theorem rd_cok {L : List S43} {c : List Int} (h : ok L c) (i : Nat) (hi : i < c.length) : 0 ≤ rd c i ∧ rd c i ≤ 60 := by
  have e : rd c i = c[i] := by
    unfold rd
    rw [Int.toNat_natCast, List.getD_eq_getElem?_getD, List.getElem?_eq_getElem hi]
    rfl
  rw [e]
  exact h.2.2.2.2.2 _ (List.getElem_mem hi)
/-- A row outlives what writes no cells. -/
theorem R_cells {α : Type} {d : Kd α} {e base : Nat} {okp : Nat → Prop} {v : Value} {xs : List α} {W W' : World} {row : Option Nat} (h : d.R e W base okp v xs) (hg : W.grownBy W' row) (hr : ∀ r, row = some r → ∃ o : Obj, W.heap[r]? = some o ∧ o.isCells = false) : d.R e W' base okp v xs := by
  refine Kd.R_mono (Kd.R_grown (Kd.R_bound h) hg fun k hk e => ?_) (fun k hk => hk.1)
  obtain ⟨_, _, _, q, _, cs, hc⟩ := hk
  obtain ⟨o, ho, hn⟩ := hr k e.symm
  rw [hc] at ho
  cases ho
  cases hn
structure Mem (n₀ gl cl Bl Bo : Nat) (w W : World) (left out : List Int) (vo : Value) : Prop where
  lrow : Kd.R (Kd.int .i64) 2 W n₀ (fun k => k = gl) (.slice (some ⟨gl, 0, none⟩) left.length cl) left
  orow : Kd.R (Kd.int .i64) 2 W n₀ (fun k => k ≠ gl) vo out
  lbox : Boxed W Bl 24 (.slice (some ⟨gl, 0, none⟩) left.length cl)
  obox : Boxed W Bo 24 vo
  below : Below n₀ w W
theorem Mem.own {n₀ gl cl Bl Bo : Nat} {w W W' : World} {left out : List Int} {vo : Value} {row : Option Nat} (h : Mem n₀ gl cl Bl Bo w W left out vo) (hn : n₀ ≤ w.heap.size) (hg : W.grownBy W' row) (hr : ∀ r, row = some r → n₀ ≤ r ∧ ∃ o : Obj, W.heap[r]? = some o ∧ o.isCells = false) : Mem n₀ gl cl Bl Bo w W' left out vo := by
  have hr' : ∀ r, row = some r → ∃ o : Obj, W.heap[r]? = some o ∧ o.isCells = false := fun r e => (hr r e).2
  exact ⟨R_cells h.lrow hg hr', R_cells h.orow hg hr', cells_kept h.lbox hg hr', cells_kept h.obox hg hr', h.below.grown hg (Nat.le_trans hn h.below.size) (fun k e => (hr k e).1)⟩
theorem Mem.alloc {n₀ gl cl Bl Bo : Nat} {w W : World} {left out : List Int} {vo : Value} (h : Mem n₀ gl cl Bl Bo w W left out vo) (hn : n₀ ≤ w.heap.size) (o : Obj) : Mem n₀ gl cl Bl Bo w (W.alloc o) left out vo := h.own hn (World.grownBy_alloc W o none) (fun r e => by cases e)
theorem lblock {W : World} {n₀ gl cl : Nat} {okp : Nat → Prop} {left : List Int} (h : Kd.R (Kd.int .i64) 2 W n₀ okp (.slice (some ⟨gl, 0, none⟩) left.length cl) left) : ∃ cs, W.heap[gl]? = some (.cells cs 2 (0, 0)) := Kd.R_typed h gl rfl
theorem box_ne {W : World} {B g : Nat} {v : Value} {cs : Array Value} (h : Boxed W B 24 v) (hc : W.heap[g]? = some (.cells cs 2 (0, 0))) : B ≠ g := by
  rintro rfl
  have h' : W.heap[B]? = some (.cells #[v] 24 (0, 0)) := h
  rw [h'] at hc
  cases hc
/-- One is taken from the i-th. -/
theorem Mem.take {n₀ gl cl Bl Bo : Nat} {w W : World} {left out : List Int} {vo : Value} (h : Mem n₀ gl cl Bl Bo w W left out vo) (hn : n₀ ≤ w.heap.size) (i : Nat) (x : Int) : Mem n₀ gl cl Bl Bo w (W.setCell ⟨gl, i, none⟩ (.int .i64 x)) (left.set i x) out vo := by
  obtain ⟨cs, hc⟩ := lblock h.lrow
  obtain ⟨h1, hg⟩ := Kd.R_putg h.lrow (i : Int) x
  rw [Int.toNat_natCast] at h1 hg
  refine ⟨by rw [List.length_set]; exact h1, Kd.R_grown h.orow hg (fun k hk e => hk (Option.some.inj e)), ?_, ?_, h.below.setCell (p := ⟨gl, i, none⟩) (Kd.R_base h.lrow gl rfl) _⟩
  · rw [List.length_set]
    exact h.lbox.kept hg (fun e => box_ne h.lbox hc (Option.some.inj e))
  · exact h.obox.kept hg (fun e => box_ne h.obox hc (Option.some.inj e))
theorem Mem.cell {n₀ gl cl Bl Bo : Nat} {w W : World} {left out : List Int} {vo : Value} (h : Mem n₀ gl cl Bl Bo w W left out vo) (i : Nat) (hi : i < left.length) : W.cell? ⟨gl, i, none⟩ = some (.int .i64 (rd left i)) ∧ W.frozen? ⟨gl, i, none⟩ = false := by
  obtain ⟨c, h1, h2, h3, h4⟩ := Kd.R_elem h.lrow (0 : Int) (i : Int) (by omega) (by omega)
  obtain ⟨cs, hc⟩ := lblock h.lrow
  have h5 : c = [.int .i64 (left.getD i 0)] := h2
  have h6 := h3 0 (.int .i64 (left.getD i 0)) (by rw [h5]; rfl)
  rw [Int.toNat_natCast] at h6
  refine ⟨?_, blk_frozen hc i⟩
  have e : i * (Kd.int .i64).sz + 0 = i := by show i * 1 + 0 = i; omega
  rw [e] at h6
  rw [h6]
  rfl
theorem append_in {F : Fence} {n : Nat} {ops : Array Oper} {rest : List Oper} {o : Oper} {a : Act} {Q : Exit → Act → World → Prop} {W : World} (hgd : o.guard = none) (s x : Operand) (ho : o.op = .call { callee := .builtin .append, args := #[s, x], argTypes := #[24, 24] })
    (base : Nat) (okp : Nat → Prop) (v : Value) (xs : List Int) (y : Int) (hs : a.eval s = v) (hx : a.eval x = .slice (some ⟨W.heap.size, 0, none⟩) 1 1) (HO : Kd.R (Kd.int .i64) 2 W base okp v xs) (hbase : base ≤ W.heap.size) (hl : xs.length ≤ 1000) (hfresh : ∀ k, W.heap.size ≤ k → okp k)
    (h : ∀ v1 w1, Kd.R (Kd.int .i64) 2 w1 base okp v1 (xs ++ [y]) → W.grownBy w1 v.ownBlock → wpListIn F n Try.prog ops Q rest (a.put o.dst v1) w1) :
    wpListIn F n Try.prog ops Q (o :: rest) a (W.alloc (.cells #[.int .i64 y] 2)) := by
  obtain ⟨h0, inner, hown, hr⟩ := HO
  obtain ⟨i0, hi, hzz⟩ := Option.map_eq_some_iff.1 info2
  simp only [Prod.mk.injEq] at hzz
  obtain ⟨hz0, hz1, hz2⟩ := hzz
  refine wpListIn_plain hgd fun K hK' => ?_
  obtain ⟨v', w', hrun, r1, r2, r3, r4⟩ := run_append_own_at (P := Try.prog) (w := W.alloc (.cells #[.int .i64 y] 2)) base 24 o.type 2 i0 (.int .i64 0) 1 8 Try.underlying24 hi hz0 hz1 hz2 rfl (by decide) v xs.length inner (hown.alloc _) ⟨W.heap.size, 0, none⟩ 1 1 [.int .i64 y] rfl
    (by simpa using World.news_of_block (cs := #[.int .i64 y]) (t := 2) (fr := (0, 0)) (World.alloc_heap_new W (.cells #[.int .i64 y] 2))) (by simp [Value.oneCell']) (by simp only [maxLen]; omega) (by omega) (by simp; omega)
  unfold Oper.wpIn
  refine ⟨?_, ?_⟩
  · simp [Oper.about, ho, resolve, Target.leads, Sem.run_pure]
  · rw [Oper.semAt_plain F _ _ (by rw [ho]; intro c hc'; cases hc')]
    simp [execOp, ho, resolve, invoke, builtin, hs, hx, hrun, Result.andThen]
    have hg := World.grownBy.trans (World.grownBy_alloc W (.cells #[.int .i64 y] 2) _) r2
    refine hK' _ _ (h v' w' (Kd.R_appended (okp := fun _ => False) h0 hr (show (Kd.int .i64).M W base (fun _ => False) y [.int .i64 y] from rfl) (fun _ hk => hk.elim) hfresh r1 hg ?_) hg)
    rcases r4 with r4 | r4
    · exact .inl r4
    · exact .inr ⟨_, r4, by simp⟩
theorem store_in {P : Program} {F : Fence} {n : Nat} {ops : Array Oper} {rest : List Oper} {o : Oper} {a : Act} {Q : Exit → Act → World → Prop} {W w1 : World} (hgd : o.guard = none) (hd : o.dst = none) {t : TypeId} (p : Tmp) {v : Operand} (ho : o.op = .store t (.tmp p) v) (hrun : (execOp a.eval o).run P W = .ok .skip w1)
    (h : ∀ w2, w2 = w1 → wpListIn F n P ops Q rest a w2) : wpListIn F n P ops Q (o :: rest) a W := by
  refine wpListIn_plain hgd fun K hK' => ?_
  unfold Oper.wpIn
  refine ⟨?_, ?_⟩
  · simp [Oper.about, ho]
  · rw [Oper.semAt_plain F _ _ (by rw [ho]; intro c hc'; cases hc'), hrun]
    exact hK' _ _ (by rw [hd]; exact h w1 rfl)
end Ly
end Go.Proofs.Ytnabkphkdkdigaa.Q
