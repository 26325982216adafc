import Derived.Test.YtebdblefhkcpeaaDoorQ0
import Derived.Lib.LaidTab
import Derived.Lib.ItoaNum
namespace Go.Proofs.YtebdblefhkcpeaaDoor.Q
open Go.RowKit Go.Proofs.YtebdblefhkcpeaaDoorW.PrintWords Go.Proofs.YtebdblefhkcpeaaDoorW.PrintLast Go.Proofs.YtebdblefhkcpeaaDoorW.PrintMore
set_option linter.unusedVariables false
set_option linter.unusedSimpArgs false
/-- What the library's variables hold: the table of powers of ten, some number in MaxLen, two errors. -/
structure Hd (w : World) : Prop where
  tab : Go.Lib.TabIs Tryd.prog w "internal/strconv.uint64pow10" .u64 Go.Lib.pow10Tab
  len : ∃ m, w.cell? ⟨0, 0, none⟩ = some (.int .i64 m)
  syn : ∃ tp p, w.var? Tryd.prog "strconv.ErrSyntax" = some #[.iface tp p]
  ran : ∃ tp p, w.var? Tryd.prog "strconv.ErrRange" = some #[.iface tp p]
theorem hd_var {w w' : World} {n : String} {cs : Array Value} (h : w.var? Tryd.prog n = some cs) (hb : Below w.heap.size w w') : w'.var? Tryd.prog n = some cs := by
  unfold World.var? at h ⊢
  obtain ⟨g, hg, h⟩ := Option.bind_eq_some_iff.1 h
  rw [hg]
  have hlt : g < w.heap.size := by
    rcases Nat.lt_or_ge g w.heap.size with h' | h'
    · exact h'
    · rw [Array.getElem?_eq_none h'] at h; cases h
  rw [Option.bind_some, hb.block g hlt]
  exact h
theorem Hd.below {w w' : World} (h : Hd w) (hb : Below w.heap.size w w') : Hd w' := by
  obtain ⟨tp, p, hs⟩ := h.syn
  obtain ⟨tq, q, hr⟩ := h.ran
  obtain ⟨m, hm⟩ := h.len
  refine ⟨hd_var h.tab hb, ⟨m, ?_⟩, ⟨tp, p, hd_var hs hb⟩, ⟨tq, q, hd_var hr hb⟩⟩
  rw [Below.cell hb (World.block_lt_of_cell? _ _ hm)]
  exact hm
theorem Hd.alloc {w : World} (h : Hd w) (o : Obj) : Hd (w.alloc o) := h.below (Below.alloc (Below.refl _ _) (Nat.le_refl _) o)
theorem Hd.drew {w : World} (h : Hd w) : Hd w.drew := h.below (Below.drew (Below.refl _ _))
theorem Hd.step {w0 w w' : World} (h : Hd w0) (hb : Below w0.heap.size w0 w) (hb' : Below w.heap.size w w') : Hd w' := (h.below hb).below hb'
/-- The pieces of a text, laid in a new block, are a row of the call's own. -/
theorem strs_R (w : World) (xs : List ByteArray) (h : xs.length ≤ 9223372036854775807) : Kd.R Kd.string 9 (w.alloc (.cells (xs.map Value.string).toArray 9)) w.heap.size (fun _ => True) (.slice (some ⟨w.heap.size, 0, none⟩) xs.length xs.length) xs := by
  refine ⟨fun _ _ => trivial, xs.map Value.string, ⟨by show (xs.map _).length = xs.length * 1; simp, .inr ⟨w.heap.size, xs.length, (xs.map Value.string).toArray, rfl, Nat.le_refl _, ?_, Nat.le_refl _, h, by show _ = xs.length * 1; simp, ?_⟩⟩, by show (xs.map _).length = xs.length * 1; simp, fun j p hp => ?_⟩
  · show (w.heap.push _)[w.heap.size]? = _
    simp
  · show List.take (xs.length * 1) _ = _
    simp [List.take_of_length_le]
  · obtain ⟨hj, he⟩ := List.getElem?_eq_some_iff.1 hp
    show ((xs.map Value.string).drop (j * 1)).take 1 = [.string p]
    rw [Nat.mul_one, ← List.map_drop, List.drop_eq_getElem_cons hj, he]
    rfl
end Go.Proofs.YtebdblefhkcpeaaDoor.Q
