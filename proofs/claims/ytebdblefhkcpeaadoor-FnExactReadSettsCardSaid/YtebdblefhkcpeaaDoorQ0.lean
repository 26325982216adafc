-- By a program of this session's, out of the translation (with the kit's print). Lean checks it.
import Derived.Test.YtebdblefhkcpeaaDoorProg
import Derived.Below
import Derived.Deep.Draws
import Derived.Deep.AppendLies
import Derived.Maps.AppendAt
import Derived.OwnWalk
import Derived.Laws.BytesArg
import Derived.Laws.MakeOwn
import Derived.Laws.OwnMore
import Derived.Deep.OwnRows
import Derived.Tactics
import Derived.Lib.ConvBytes
import Derived.Laws.Slices
import Derived.WalkKit
import Derived.KernelRfl
import Derived.RowKit3
import Derived.Deep.LoopGhost
import Derived.Deep.QuietTactic
import Derived.BigQuiet
import Derived.WideLaws
import Derived.Deep.DeepCutAuto
import Derived.Deep.CutBlock
import Derived.Deep.RegionHeld3
import Derived.Laws.Rows
import Derived.Lib.AppendStr
import Derived.ArgAppend
import Derived.Laws.IdiomCopy
import Derived.OrdersHeld
import Derived.Laws.BitsLemmas
import Derived.Lib.SliceRun
import Derived.RowKit
import Derived.Laws.Rows
import Derived.Laws.Tables
import Derived.Test.YtebdblefhkcpeaaDoorWWords
import Derived.Test.YtebdblefhkcpeaaDoorWLast
import Derived.Test.YtebdblefhkcpeaaDoorWTab
import Derived.Test.YtebdblefhkcpeaaDoorWFour
import Derived.Test.YtebdblefhkcpeaaDoorWQPut
import Derived.Test.YtebdblefhkcpeaaDoorWApart
import Derived.Test.YtebdblefhkcpeaaDoorWArr
import Derived.Test.YtebdblefhkcpeaaDoorWZeros
import Derived.Test.YtebdblefhkcpeaaDoorWFoot
import Derived.Test.YtebdblefhkcpeaaDoorWKept
import Derived.Test.YtebdblefhkcpeaaDoorWShare
import Derived.Test.YtebdblefhkcpeaaDoorWN
import Derived.Test.YtebdblefhkcpeaaDoorWFootNe
import Derived.Test.YtebdblefhkcpeaaDoorWAt
import Derived.Test.YtebdblefhkcpeaaDoorWEqStruct
import Derived.Test.YtebdblefhkcpeaaDoorWRepsOne
import Derived.Test.YtebdblefhkcpeaaDoorWInv
import Derived.Test.YtebdblefhkcpeaaDoorWInvWords
import Derived.Test.YtebdblefhkcpeaaDoorWGuard
import Derived.Test.YtebdblefhkcpeaaDoorWNEv
import Derived.Test.YtebdblefhkcpeaaDoorWMore
import Derived.Test.YtebdblefhkcpeaaDoorQWd
namespace Go.Proofs.YtebdblefhkcpeaaDoor.Q
open Go.RowKit Go.Proofs.YtebdblefhkcpeaaDoorW.PrintWords Go.Proofs.YtebdblefhkcpeaaDoorW.PrintLast Go.Proofs.YtebdblefhkcpeaaDoorW.PrintMore
attribute [local go_sem] max2_int min2_int max_two min_two max_three min_three max_four min_four
set_option linter.unusedVariables false
set_option linter.unusedSimpArgs false

def errW : Option Int → Value
  | none => .nilIface
  | some c => .iface 60 (.int .i64 c)
theorem errW_none : errW none = .nilIface := rfl
theorem errW_some (c : Int) : errW (some c) = .iface 60 (.int .i64 c) := rfl

theorem info9 : (Tryd.prog.info? 9).map (fun i => (i.zero, i.size, i.bytes)) = some (some (.string ⟨#[]⟩), 1, 16) := by kernel_rfl
theorem info35 : (Tryd.prog.info? 35).map (fun i => (i.zero, i.size, i.bytes)) = some (some (.agg #[(.int .i8 0), (.int .i16 0)]), 2, 4) := by kernel_rfl
/-! #### struct type 35 -/
structure S35 where
  f0 : Int
  f1 : Int
def z35 : S35 := ⟨(0 : Int), (0 : Int)⟩
def k35 : Kd S35 := Kd.iso (Kd.pair (Kd.int .i8) (Kd.int .i16)) (fun x : S35 => (x.f0, x.f1))
theorem k35_open {w : World} {x : S35} {cs : List Value} (h : k35.K w x cs) : cs = [.int .i8 x.f0, .int .i16 x.f1] := by
  obtain ⟨_, _, rfl, rfl, rfl⟩ := h
  exact rfl
theorem k35_openM {w : World} {base : Nat} {ok : Nat → Prop} {x : S35} {cs : List Value} (h : k35.M w base ok x cs) : cs = [.int .i8 x.f0, .int .i16 x.f1] := by
  obtain ⟨_, _, rfl, rfl, rfl⟩ := h
  exact rfl
theorem k35_mk (w : World) (x : S35)  : k35.K w x [.int .i8 x.f0, .int .i16 x.f1] := ⟨[.int .i8 x.f0], [.int .i16 x.f1], rfl, rfl, rfl⟩
theorem k35_mkM (w : World) (base : Nat) (ok : Nat → Prop) (x : S35)  : k35.M w base ok x [.int .i8 x.f0, .int .i16 x.f1] := ⟨[.int .i8 x.f0], [.int .i16 x.f1], rfl, rfl, rfl⟩
def rd_T35 (xs : List S35) (i : Int) : S35 := xs.getD i.toNat z35
theorem at_T35 {w : World} {A : Option Addr} {n : Nat} {xs : List S35} (h : Kd.C k35 w A n xs) (i : Int) (h0 : 0 ≤ i) (h1 : i < n) : ∃ ad , A = some ad ∧ w.cell? (ad.add (i.toNat * 2)) = some (.int .i8 (rd_T35 xs i).f0) ∧ w.cell? ⟨(ad.add (i.toNat * 2)).block, (ad.add (i.toNat * 2)).off + 1, none⟩ = some (.int .i16 (rd_T35 xs i).f1) := by
  obtain ⟨ad, c, e, _, hK, hc0⟩ := Kd.C_get h z35 i h0 h1
  have hc : ∀ j u, c[j]? = some u → w.cell? (ad.add (i.toNat * 2 + j)) = some u := hc0
  obtain rfl := k35_open hK
  exact ⟨ad, e, hc 0 _ rfl, by rw [← add_field _ _ 1 (by omega)]; exact hc 1 _ rfl⟩

end Go.Proofs.YtebdblefhkcpeaaDoor.Q
