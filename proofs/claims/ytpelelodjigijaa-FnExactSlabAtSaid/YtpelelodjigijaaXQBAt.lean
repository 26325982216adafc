/- Plain facts on squares: the slab that covers a cell, the code of a square and a cell, for program and reference. -/
import Derived.Test.YtpelelodjigijaaXQ19
import Derived.Test.YtpelelodjigijaaXQ18
import Derived.Test.YtpelelodjigijaaXQBCan
namespace Go.Proofs.Ytpelelodjigijaa.Q
open Go.RowKit Go.Proofs.YtpelelodjigijaaW.PrintWords Go.Proofs.YtpelelodjigijaaW.PrintLast Go.Proofs.YtpelelodjigijaaW.PrintMore
set_option linter.unusedVariables false
set_option linter.unusedSimpArgs false
theorem covers_val (s : Sl) (x y : Int) (hs : smallS s) : impl_Slab_covers.f s.f0 s.f1 s.f2 s.f3 x y = some (inside y x s) := by
 obtain ⟨h0, h1, h2, h3⟩ := hs
 unfold impl_Slab_covers.f inside
 rw [small_w h0, small_w h1, small_w h2, small_w h3]
 unfold small at h0 h1 h2 h3
 rw [w64 (x := s.f0 + s.f2) (by omega) (by omega), w64 (x := s.f1 + s.f3) (by omega) (by omega)]
 by_cases c0 : x ≥ s.f0
 ·
  rw [if_pos c0]
  by_cases c1 : x < s.f0 + s.f2
  ·
   rw [if_pos c1]
   by_cases c2 : y ≥ s.f1
   ·
    rw [if_pos c2]
    congr 1
    exact decide_eq_decide.2 ⟨fun h => ⟨c0, c1, c2, h⟩, fun h => h.2.2.2⟩
   · rw [if_neg c2, decide_eq_false (by omega)]
  · rw [if_neg c1, decide_eq_false (by omega)]
 · rw [if_neg c0, decide_eq_false (by omega)]
theorem at_val (q : Sq) (hq : smallQ q) (x y : Int) : Ev (fun k => impl_Square_at.f k q.f0 q.f1 q.f2 x y) (coverAt q.f2 y x) := by
 unfold impl_Square_at.f coverAt
 refine Ev.bind (a := findFrom (inside y x) 0 q.f2) ?_ (Ev.now _)
 have hl : q.f2.length ≤ 1048576 := hq.2.2.1
 have hm := hq.2.2.2
 generalize q.f2 = l at *
 unfold slices_IndexFunc_impl_Slab_at_impl_Square_at_1.f
 have one : ∀ i (h : i < l.length), impl_Square_at_1.f (rd_T38 l (i : Int)).f0 (rd_T38 l (i : Int)).f1 (rd_T38 l (i : Int)).f2 (rd_T38 l (i : Int)).f3 [x] [y] = some (inside y x l[i]) := by
  intro i h
  rw [rdI_get h]
  unfold impl_Square_at_1.f
  rw [if_pos (by simp), if_pos (by simp), show rd [x] 0 = x from rfl, show rd [y] 0 = y from rfl, covers_val l[i] x y (hm _ (List.getElem_mem h))]
  rfl
 refine Ev.find (L := fun k i => slices_IndexFunc_impl_Slab_at_impl_Square_at_1.l0 k l (l.length : Int) (i : Int) [x] [y]) l (inside y x) ?_ ?_ ?_
 ·
  intro i hi hp r hr
  refine Ev.step (fun k => slices_IndexFunc_impl_Slab_at_impl_Square_at_1.l0.eq_2 _ _ _ _ _ _) (Ev.ite_pos (by omega) (Ev.ite_pos (by omega) (Ev.ite_pos (by omega) (Ev.call (one i hi) ?_))))
  rw [w64_succ (by omega), hp]
  exact Ev.ite_neg (by decide) hr
 ·
  intro i hi hp
  refine Ev.step (fun k => slices_IndexFunc_impl_Slab_at_impl_Square_at_1.l0.eq_2 _ _ _ _ _ _) (Ev.ite_pos (by omega) (Ev.ite_pos (by omega) (Ev.ite_pos (by omega) (Ev.call (one i hi) ?_))))
  rw [hp]
  exact Ev.ite_pos rfl (Ev.now _)
 · exact Ev.step (fun k => slices_IndexFunc_impl_Slab_at_impl_Square_at_1.l0.eq_2 _ _ _ _ _ _) (Ev.ite_neg (by omega) (Ev.now _))
end Go.Proofs.Ytpelelodjigijaa.Q
