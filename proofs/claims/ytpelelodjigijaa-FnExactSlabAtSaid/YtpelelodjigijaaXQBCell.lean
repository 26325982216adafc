/- Plain facts on squares: the code of a square and a cell. -/
import Derived.Test.YtpelelodjigijaaXQ15
import Derived.Test.YtpelelodjigijaaXQ18
import Derived.Test.YtpelelodjigijaaXQ17
import Derived.Test.YtpelelodjigijaaXQBCan
namespace Go.Proofs.Ytpelelodjigijaa.Q
open Go.RowKit Go.Proofs.YtpelelodjigijaaW.PrintWords Go.Proofs.YtpelelodjigijaaW.PrintLast Go.Proofs.YtpelelodjigijaaW.PrintMore
set_option linter.unusedVariables false
set_option linter.unusedSimpArgs false
def isC (q : Sq) (x y : Int) : Bool := inB x 0 (q.f0 - 1) && inB y 0 (q.f1 - 1)
theorem isCell_val (q : Sq) (hq : smallQ q) (x y : Int) (hx : small x) (hy : small y) : impl_Square_isCell.f q.f0 q.f1 q.f2 x y = some (isC q x y) := by
 unfold impl_Square_isCell.f isC
 obtain ⟨h0, h1, -, -⟩ := hq
 rw [small_w hx, small_w hy, small_w h0, small_w h1, within_val, within_val]
 unfold small at h0 h1
 rw [w64 (x := q.f0 - 1) (by omega) (by omega), w64 (x := q.f1 - 1) (by omega) (by omega)]
 simp only [Option.bind_some]
 cases inB x 0 (q.f0 - 1) <;> simp
theorem specIs (q : Sq) (hq : smallQ q) (x y : Int) (hx : small x) (hy : small y) : spec_l01Is.f [q] x y = some (isC q x y) := by
 unfold spec_l01Is.f isC
 obtain ⟨h0, h1, -, -⟩ := hq
 rw [if_pos (one_pos q), rdQ, small_w hx, small_w hy, small_w h0, small_w h1, l00In_val, l00In_val]
 unfold small at h0 h1
 rw [w64 (x := q.f0 - 1) (by omega) (by omega), w64 (x := q.f1 - 1) (by omega) (by omega)]
 simp only [Option.bind_some]
 cases inB x 0 (q.f0 - 1) <;> simp
def codeC (ok fine : Bool) : Int := if ok = true then (if fine = true then 0 else 2) else 1
theorem told_val (q : Sq) (hq : smallQ q) (b : Bool) : Ev (fun k => spec_l01Told.f k [q] b) (codeC (sqB q) b) := by
 unfold spec_l01Told.f codeC
 refine Ev.bind (specOk q hq) ?_
 exact Ev.congr (fun _ => rfl) (Ev.const (by cases sqB q <;> cases b <;> rfl))
theorem unless_val (b : Bool) (c : Int) : impl_unless.f b c = some (if b = true then 0 else c) := by
 unfold impl_unless.f
 cases b <;> rfl
theorem cellCode_val (q : Sq) (hq : smallQ q) (c : S46) (hx : small c.f0) (hy : small c.f1) : Ev (fun k => impl_cellCode.f k q.f0 q.f1 q.f2 [c]) (codeC (sqB q) (isC q c.f0 c.f1)) := by
 unfold impl_cellCode.f codeC
 refine Ev.bind (implValid q hq) ?_
 by_cases h : sqB q = true
 ·
  rw [if_pos h]
  refine Ev.ite_pos h (Ev.bind (a := !isC q c.f0 c.f1) ?_ (Ev.const ?_))
  ·
   unfold slices_ContainsFunc_impl_Cell_at_impl_cellCode_1.f
   have one : impl_cellCode_1.f c.f0 c.f1 [(⟨q.f0, q.f1, q.f2⟩ : Sq)] = some (!isC q c.f0 c.f1) := by
    unfold impl_cellCode_1.f
    rw [if_pos (one_pos _), rdQ, isCell_val q hq _ _ hx hy]
    rfl
   refine Ev.bind (a := if isC q c.f0 c.f1 = true then (-1 : Int) else 0) ?_ (Ev.const (by cases isC q c.f0 c.f1 <;> rfl))
   unfold slices_IndexFunc_impl_Cell_at_impl_cellCode_1.f
   refine Ev.step (fun k => slices_IndexFunc_impl_Cell_at_impl_cellCode_1.l0.eq_2 _ _ _ _ _) (Ev.ite_pos (by simp) (Ev.ite_pos (by omega) (Ev.ite_pos (by simp) (Ev.call one ?_))))
   by_cases hc : isC q c.f0 c.f1 = true
   ·
    rw [hc, if_pos rfl, w64 (x := (0 : Int) + 1) (by omega) (by omega)]
    exact Ev.ite_neg (by decide) (Ev.step (fun k => slices_IndexFunc_impl_Cell_at_impl_cellCode_1.l0.eq_2 _ _ _ _ _) (Ev.ite_neg (by simp) (Ev.now _)))
   ·
    rw [if_neg hc]
    exact Ev.ite_pos (by simpa using hc) (Ev.now _)
  ·
   rw [unless_val, Bool.not_not]
   rfl
 ·
  rw [if_neg h]
  exact Ev.ite_neg h (Ev.now _)
end Go.Proofs.Ytpelelodjigijaa.Q
