-- Trimmed by a program.
import Derived.Test.YteinapckfhpdkaaDoorXQ0
namespace Go.Proofs.YteinapckfhpdkaaDoor.Q
open Go.RowKit Go.Proofs.YteinapckfhpdkaaDoorW.PrintWords Go.Proofs.YteinapckfhpdkaaDoorW.PrintLast Go.Proofs.YteinapckfhpdkaaDoorW.PrintMore
set_option linter.unusedVariables false
set_option linter.unusedSimpArgs false
structure Hd (w : World) : Prop where
 len : ∃ m,w.cell? ⟨0,0,none⟩ = some (.int .i64 m)
theorem Hd.below {w w' : World} (h : Hd w) (hb : Below w.heap.size w w') : Hd w' := by
 obtain ⟨m,hm⟩:=h.len;refine ⟨⟨m,?_⟩⟩;rw [Below.cell hb (bl_ _ _ hm)];exact hm
theorem strs_R (w : World) (xs : List ByteArray) (h : xs.length ≤ 9223372036854775807) : Kd.R Kd.string 9 (w.alloc (.cells (xs.map Value.string).toArray 9)) w.heap.size (fun _ => True) (.slice (some ⟨w.heap.size, 0, none⟩) xs.length xs.length) xs := by
 refine ⟨fun _ _=>trivial,xs.map Value.string,⟨by show (xs.map _).length = xs.length * 1;simp,.inr ⟨w.heap.size,xs.length,(xs.map Value.string).toArray,rfl,Nat.le_refl _,?_,Nat.le_refl _,h,by show _ = xs.length * 1;simp,?_⟩⟩,by show (xs.map _).length = xs.length * 1;simp,fun j p hp=>?_⟩
 ·
  show (w.heap.push _)[w.heap.size]? = _
  simp
 ·
  show List.take (xs.length * 1) _ = _
  simp [List.take_of_length_le]
 ·
  obtain ⟨hj,he⟩:=List.getElem?_eq_some_iff.1 hp
  show ((xs.map Value.string).drop (j * 1)).take 1 = [.string p]
  rw [Nat.mul_one,← List.map_drop,List.drop_eq_getElem_cons hj,he]
  rfl
end Go.Proofs.YteinapckfhpdkaaDoor.Q
