/- What impl.ReadSquare keeps in its map: for each letter's place the smallest rectangle that begins at the letter's first cell. -/
import Derived.Test.YteinapckfhpdkaaDoorXQMapO
import Derived.Test.YteinapckfhpdkaaDoorXQ0
import Derived.Lib.Bytealg
import Derived.Maps.Keyed
namespace Go.Proofs.YteinapckfhpdkaaDoor.Q
open Go.RowKit Go.Proofs.YteinapckfhpdkaaDoorW.PrintWords Go.Proofs.YteinapckfhpdkaaDoorW.PrintLast Go.Proofs.YteinapckfhpdkaaDoorW.PrintMore
set_option linter.unusedVariables false
set_option linter.unusedSimpArgs false
namespace Rs
def letters : ByteArray := ⟨#[97, 98, 99, 100, 101, 102, 103, 104, 105, 106, 107, 108, 109, 110, 111, 112, 113, 114, 115, 116, 117, 118, 119, 120, 121, 122, 65, 66, 67, 68, 69, 70, 71, 72, 73, 74, 75, 76, 77, 78, 79, 80, 81, 82, 83, 84, 85, 86, 87, 88, 89, 90, 48, 49, 50, 51, 52, 53, 54, 55]⟩
def idx (row : ByteArray) (x : Nat) : Int := Go.Lib.indexByte letters.data.toList (bt row (x : Int)).toNat.toUInt8
def step (o : Option S36) (x y : Nat) : S36 := match o with
 | none => ⟨IntKind.i8.wrap (x : Int), IntKind.i8.wrap (y : Int), 1, 1⟩
 | some s => ⟨s.f0, s.f1, if s.f2 < IntKind.i8.wrap (IntKind.i8.wrap (IntKind.i8.wrap (x : Int) - s.f0) + 1) then IntKind.i8.wrap (IntKind.i8.wrap (IntKind.i8.wrap (x : Int) - s.f0) + 1) else s.f2, if s.f3 < IntKind.i8.wrap (IntKind.i8.wrap (IntKind.i8.wrap (y : Int) - s.f1) + 1) then IntKind.i8.wrap (IntKind.i8.wrap (IntKind.i8.wrap (y : Int) - s.f1) + 1) else s.f3⟩
def put (M : Int → Option S36) (row : ByteArray) (x y : Nat) : Int → Option S36 := Go.Mp.upd M (idx row x) (some (step (M (idx row x)) x y))
def rowM (row : ByteArray) (y : Nat) (M : Int → Option S36) : Nat → Int → Option S36
 | 0 => M
 | n + 1 => put (rowM row y M n) row n y
def gridM (rows : List ByteArray) (wide : Nat) : Nat → Int → Option S36
 | 0 => fun _ => none
 | n + 1 => rowM (rdOf ByteArray.empty rows (n : Int)) n (gridM rows wide n) (min (rdOf ByteArray.empty rows (n : Int)).size wide)
def gather (M : Int → Option S36) : Nat → List S36
 | 0 => []
 | n + 1 => gather M n ++ (match M (n : Int) with | some s => [s] | none => [])
theorem gather_len (M : Int → Option S36) : ∀ n, (gather M n).length ≤ n
 | 0 => Nat.le_refl _
 | n + 1 => by
  have := gather_len M n
  unfold gather
  rw [List.length_append]
  split <;> simp <;> omega
def encK (a : Int) : Value := .int .i64 a
def encS (s : S36) : Value := .agg #[.int .i8 s.f0, .int .i8 s.f1, .int .i8 s.f2, .int .i8 s.f3]
def G (a : Int) : Prop := -1 ≤ a ∧ a ≤ 100
theorem law : Go.Mp.LawO Tryd.prog 45 3 36 encK G (encS ⟨0, 0, 0, 0⟩) where
 keyed := Go.Maps.int_keyed Tryd.underlying3
 type := Tryd.underlying45
 zero := fun w => by
  obtain ⟨i0, hi, hz0, hz1, hz2⟩ := info_parts info36
  simp [zeroValue, typeInfo, hi, hz0]
  rfl
 inj := fun a b h => by injection h
 key := fun a ha => ⟨_, Go.Maps.keyOf_int_mk Tryd.underlying3 (by
  have e0 : IntKind.i64.min = -9223372036854775808 := rfl
  have e1 : IntKind.i64.max = 9223372036854775807 := rfl
  simp only [Lit.wf, e0, e1, Bool.and_eq_true, decide_eq_true_eq]
  unfold G at ha
  omega)⟩
theorem idx_G (row : ByteArray) (x : Nat) : G (idx row x) := by
 unfold G idx
 have h : ∀ (l : List UInt8) (c : UInt8), -1 ≤ Go.Lib.indexByte l c ∧ Go.Lib.indexByte l c ≤ l.length := by
  intro l c
  induction l with
  | nil => exact ⟨Int.le_refl _, by show (-1 : Int) ≤ 0; decide⟩
  | cons b l ih =>
   unfold Go.Lib.indexByte
   split
   · exact ⟨by decide, by simp only [List.length_cons]; omega⟩
   ·
    split
    · exact ⟨Int.le_refl _, by simp only [List.length_cons]; omega⟩
    · simp only [List.length_cons]; omega
 have := h letters.data.toList (bt row (x : Int)).toNat.toUInt8
 have h60 : letters.data.toList.length = 60 := rfl
 omega
section
variable {P : Program} {ops : Array Oper} {rest : List Oper} {o : Oper} {a : Act} {Q : Exit → Act → World → Prop} {W : World}
theorem make_event (hgd : o.guard = none) {N : Tmp} (_hd : o.dst = some N) {t k e : TypeId} (ho : o.op = .makeMap t none) (hu : P.underlying t = some (.map k e))
  (h : ∀ m w1, m = W.heap.size → w1.heap[m]? = some (.map #[] 0) → Below W.heap.size W w1 → wpList P ops Q rest (a.put o.dst (.map (some m))) w1) : wpList P ops Q (o :: rest) a W := by
 refine Kd.event_run hgd (v := .map (some W.heap.size)) (w1 := W.alloc (.map #[] 0)) ?_ (h _ _ rfl (MapKept.heap_alloc W _).1 (below_alloc (Below.refl _ _) _))
 simp [execOp, ho, Instr.makeMap]
end
theorem look_none {ops : Array Oper} {rest : List Oper} {o : Oper} {a : Act} {Q : Exit → Act → World → Prop} {W : World} (hgd : o.guard = none) {N : Tmp} (_hd : o.dst = some N) {x y : Operand} (ho : o.op = .lookup 45 x y true)
  {b : Nat} {f : Int → Option S36} (hI : Go.Mp.Iso encK encS G W b f) {p : Int} (hp : G p) (hx : a.eval x = .map (some b)) (hy : a.eval y = .int .i64 p) (hf : f p = none) (h : wpList Tryd.prog ops Q rest (a.put o.dst (.tuple #[.agg #[.int .i8 0, .int .i8 0, .int .i8 0, .int .i8 0], .bool false])) W) : wpList Tryd.prog ops Q (o :: rest) a W := by
 have hl := hI.look law hp
 rw [hf] at hl
 replace hl : (Instr.lookup 45 (.map (some b)) (.int .i64 p) true).run Tryd.prog W = .ok (.tuple #[.agg #[.int .i8 0, .int .i8 0, .int .i8 0, .int .i8 0], .bool false]) W := hl
 refine Kd.event_run hgd (w1 := W) ?_ h
 simp [execOp, ho, hx, hy, hl, Result.andThen]
theorem look_some {ops : Array Oper} {rest : List Oper} {o : Oper} {a : Act} {Q : Exit → Act → World → Prop} {W : World} (hgd : o.guard = none) {N : Tmp} (_hd : o.dst = some N) {x y : Operand} (ho : o.op = .lookup 45 x y true)
  {b : Nat} {f : Int → Option S36} (hI : Go.Mp.Iso encK encS G W b f) {p : Int} (hp : G p) {s : S36} (hx : a.eval x = .map (some b)) (hy : a.eval y = .int .i64 p) (hf : f p = some s) (h : wpList Tryd.prog ops Q rest (a.put o.dst (.tuple #[.agg #[.int .i8 s.f0, .int .i8 s.f1, .int .i8 s.f2, .int .i8 s.f3], .bool true])) W) : wpList Tryd.prog ops Q (o :: rest) a W := by
 have hl := hI.look law hp
 rw [hf] at hl
 replace hl : (Instr.lookup 45 (.map (some b)) (.int .i64 p) true).run Tryd.prog W = .ok (.tuple #[.agg #[.int .i8 s.f0, .int .i8 s.f1, .int .i8 s.f2, .int .i8 s.f3], .bool true]) W := hl
 refine Kd.event_run hgd (w1 := W) ?_ h
 simp [execOp, ho, hx, hy, hl, Result.andThen]
theorem update_event {ops : Array Oper} {rest : List Oper} {o : Oper} {a : Act} {Q : Exit → Act → World → Prop} {W : World} (hgd : o.guard = none) (hN : o.dst = none) {x y z : Operand} (ho : o.op = .mapUpdate 45 x y z)
  {b : Nat} {f : Int → Option S36} (hI : Go.Mp.Iso encK encS G W b f) {p : Int} (hp : G p) {s : S36} (hx : a.eval x = .map (some b)) (hy : a.eval y = .int .i64 p) (hz : a.eval z = .agg #[.int .i8 s.f0, .int .i8 s.f1, .int .i8 s.f2, .int .i8 s.f3])
  (h : ∀ w1, Go.Mp.Iso encK encS G w1 b (Go.Mp.upd f p (some s)) → W.grownBy w1 (some b) → wpList Tryd.prog ops Q rest a w1) : wpList Tryd.prog ops Q (o :: rest) a W := by
 obtain ⟨W2, h1, h2, h3⟩ := hI.update law hp s
 replace h1 : (Instr.mapUpdate 45 (.map (some b)) (.int .i64 p) (.agg #[.int .i8 s.f0, .int .i8 s.f1, .int .i8 s.f2, .int .i8 s.f3])).run Tryd.prog W = _ := h1
 refine wpList_plain hgd fun K hK => ?_
 unfold Oper.wp
 have hr : (execOp a.eval o).run Tryd.prog W = .ok .skip W2 := by simp [execOp, ho, hx, hy, hz, h1, Result.andThen]
 rw [hr]
 have h4 := hK a W2 (h W2 h2 h3)
 show K (a.put o.dst undef) _
 rw [hN]
 exact h4
end Rs
end Go.Proofs.YteinapckfhpdkaaDoor.Q
