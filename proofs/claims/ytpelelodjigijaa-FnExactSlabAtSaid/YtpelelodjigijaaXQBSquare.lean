/- Plain facts on squares: which squares the program takes for valid, and which slabs can be put. -/
import Derived.Test.YtpelelodjigijaaXQ9
import Derived.Test.YtpelelodjigijaaXQ5
import Derived.Test.YtpelelodjigijaaXQ7
import Derived.Test.YtpelelodjigijaaXQ6
import Derived.Test.YtpelelodjigijaaXQ8
import Derived.Test.YtpelelodjigijaaXQHSquare
import Derived.Test.YtpelelodjigijaaXQBGrid
namespace Go.Proofs.Ytpelelodjigijaa.Q
open Go.RowKit Go.Proofs.YtpelelodjigijaaW.PrintWords Go.Proofs.YtpelelodjigijaaW.PrintLast Go.Proofs.YtpelelodjigijaaW.PrintMore
set_option linter.unusedVariables false
set_option linter.unusedSimpArgs false
theorem isEdge_val (a : Int) : impl_isEdge.f a = some (inB a 1 12) := by
 unfold impl_isEdge.f
 rw [within_val]
 rfl
theorem isIn_val (q : Sq) (s : Sl) (hq : small q.f0 ∧ small q.f1) (hs : smallS s) (l : List Sl) : impl_Slab_isIn.f s.f0 s.f1 s.f2 s.f3 q.f0 q.f1 l = some (lies q.f0 q.f1 s) := by
 obtain ⟨h0, h1, h2, h3⟩ := hs
 unfold impl_Slab_isIn.f lies
 rw [small_w h0, small_w h1, small_w h2, small_w h3, small_w hq.1, small_w hq.2, w64 (x := s.f0 + s.f2) (by have := h0.1; have := h2.1; omega) (by have := h0.2; have := h2.2; omega), w64 (x := s.f1 + s.f3) (by have := h1.1; have := h3.1; omega) (by have := h1.2; have := h3.2; omega)]
 by_cases c2 : s.f2 ≥ 1
 ·
  rw [if_pos c2]
  by_cases c3 : s.f3 ≥ 1
  ·
   rw [if_pos c3]
   by_cases c0 : s.f0 ≥ 0
   ·
    rw [if_pos c0]
    by_cases c1 : s.f1 ≥ 0
    ·
     rw [if_pos c1]
     by_cases c4 : s.f0 + s.f2 ≤ q.f0
     ·
      rw [if_pos c4]
      congr 1
      exact decide_eq_decide.2 ⟨fun h => ⟨c0, c1, c2, c3, c4, h⟩, fun h => h.2.2.2.2.2⟩
     · rw [if_neg c4, decide_eq_false (by omega)]
    · rw [if_neg c1, decide_eq_false (by omega)]
   · rw [if_neg c0, decide_eq_false (by omega)]
  · rw [if_neg c3, decide_eq_false (by omega)]
 · rw [if_neg c2, decide_eq_false (by omega)]
theorem meets_val (s t : Sl) (hs : smallS s) (ht : smallS t) : impl_Slab_meets.f s.f0 s.f1 s.f2 s.f3 t.f0 t.f1 t.f2 t.f3 = some (meets s t) := by
 obtain ⟨h0, h1, h2, h3⟩ := hs
 obtain ⟨g0, g1, g2, g3⟩ := ht
 unfold impl_Slab_meets.f meets
 rw [small_w h0, small_w h1, small_w h2, small_w h3, small_w g0, small_w g1, small_w g2, small_w g3]
 unfold small at h0 h1 h2 h3 g0 g1 g2 g3
 rw [w64 (x := s.f0 + s.f2) (by omega) (by omega), w64 (x := s.f1 + s.f3) (by omega) (by omega), w64 (x := t.f0 + t.f2) (by omega) (by omega), w64 (x := t.f1 + t.f3) (by omega) (by omega)]
 by_cases c0 : s.f0 < t.f0 + t.f2
 ·
  rw [if_pos c0]
  by_cases c1 : t.f0 < s.f0 + s.f2
  ·
   rw [if_pos c1]
   by_cases c2 : s.f1 < t.f1 + t.f3
   ·
    rw [if_pos c2]
    congr 1
    exact decide_eq_decide.2 ⟨fun h => ⟨c0, c1, c2, h⟩, fun h => h.2.2.2⟩
   · rw [if_neg c2, decide_eq_false (by omega)]
  · rw [if_neg c1, decide_eq_false (by omega)]
 · rw [if_neg c0, decide_eq_false (by omega)]
def cmpI (a b : Int) : Int := if a < b then -1 else if a > b then 1 else 0
theorem cmp_val (a b : Int) : cmp_Compare_int8.f a b = some (cmpI a b) := by
 unfold cmp_Compare_int8.f cmp_isNaN_int8.f cmpI
 simp only [bne_self_eq_false, Option.bind_some]
 rw [if_neg (by decide), if_neg (by decide)]
 split
 · rfl
 · split <;> rfl
def cmpS (a b : Sl) : Int := if cmpI a.f1 b.f1 = 0 then cmpI a.f0 b.f0 else cmpI a.f1 b.f1
theorem or_val (a b : Int) : Ev (fun k => cmp_Or_int.f k [a, b]) (if a = 0 then b else a) := by
 unfold cmp_Or_int.f
 refine Ev.step (fun k => cmp_Or_int.l0.eq_2 _ _ _ _ _) (Ev.ite_pos (by simp) (Ev.ite_pos (by omega) (Ev.ite_pos (by simp) ?_)))
 have e0 : rd [a, b] 0 = a := rfl
 have e1 : rd [a, b] 1 = b := rfl
 rw [e0, w64 (x := (0 : Int) + 1) (by omega) (by omega), show (0 : Int) + 1 = 1 by omega]
 by_cases h : a = 0
 ·
  rw [if_pos h]
  refine Ev.ite_pos h (Ev.step (fun k => cmp_Or_int.l0.eq_2 _ _ _ _ _) (Ev.ite_pos (by simp) (Ev.ite_pos (by omega) (Ev.ite_pos (by simp) ?_))))
  rw [e1, w64 (x := (1 : Int) + 1) (by omega) (by omega), show (1 : Int) + 1 = 2 by omega]
  by_cases h1 : b = 0
  ·
   rw [h1]
   exact Ev.ite_pos rfl (Ev.step (fun k => cmp_Or_int.l0.eq_2 _ _ _ _ _) (Ev.ite_neg (by simp) (Ev.now _)))
  · exact Ev.ite_neg h1 (Ev.now _)
 ·
  rw [if_neg h]
  exact Ev.ite_neg h (Ev.now _)
theorem cmpS_val (a b : Sl) : Ev (fun k => impl_compareSlabs.f k a.f0 a.f1 a.f2 a.f3 b.f0 b.f1 b.f2 b.f3) (cmpS a b) := by
 unfold impl_compareSlabs.f
 refine Ev.call (a := (a.f0, a.f1)) rfl (Ev.call (a := (b.f0, b.f1)) rfl (Ev.bind (a := cmpS a b) ?_ (Ev.now _)))
 unfold impl_compareCells.f
 exact Ev.call (cmp_val _ _) (Ev.call (cmp_val _ _) (Ev.bind (or_val _ _) (Ev.now _)))
theorem cmpS_pos (a b : Sl) : cmpS a b > 0 ↔ before b a = true := by
 unfold cmpS cmpI before
 rw [decide_eq_true_eq]
 by_cases h1 : a.f1 < b.f1
 ·
  rw [if_pos h1, if_neg (by decide)]
  omega
 ·
  rw [if_neg h1]
  by_cases h2 : a.f1 > b.f1
  ·
   rw [if_pos h2, if_neg (by decide)]
   omega
  ·
   rw [if_neg h2, if_pos rfl]
   by_cases h3 : a.f0 < b.f0
   · rw [if_pos h3]; omega
   ·
    rw [if_neg h3]
    by_cases h4 : a.f0 > b.f0
    · rw [if_pos h4]; omega
    · rw [if_neg h4]; omega
theorem anyMeets (s : Sl) (l : List Sl) (hs : smallS s) (hl : l.length ≤ 1048576) (hm : ∀ t ∈ l, smallS t) : Ev (fun k => slices_ContainsFunc_impl_Slab_at_impl_Slab_meets.f k l s.f0 s.f1 s.f2 s.f3) (l.any (meets s)) := by
 unfold slices_ContainsFunc_impl_Slab_at_impl_Slab_meets.f
 refine Ev.bind (a := findFrom (meets s) 0 l) ?_ (Ev.eq_ (Ev.now _) (findFrom_ge _ l 0))
 unfold slices_IndexFunc_impl_Slab_at_impl_Slab_meets.f
 have one : ∀ i (h : i < l.length), impl_Slab_meets.f s.f0 s.f1 s.f2 s.f3 (rd_T38 l (i : Int)).f0 (rd_T38 l (i : Int)).f1 (rd_T38 l (i : Int)).f2 (rd_T38 l (i : Int)).f3 = some (meets s l[i]) := by
  intro i h
  rw [rdI_get h]
  exact meets_val s _ hs (hm _ (List.getElem_mem h))
 refine Ev.find (L := fun k i => slices_IndexFunc_impl_Slab_at_impl_Slab_meets.l0 k l (l.length : Int) (i : Int) s.f0 s.f1 s.f2 s.f3) l (meets s) ?_ ?_ ?_
 ·
  intro i hi hp r hr
  refine Ev.step (fun k => slices_IndexFunc_impl_Slab_at_impl_Slab_meets.l0.eq_2 _ _ _ _ _ _ _ _) (Ev.ite_pos (by omega) (Ev.ite_pos (by omega) (Ev.ite_pos (by omega) (Ev.call (one i hi) ?_))))
  rw [w64_succ (by omega), hp]
  exact Ev.ite_neg (by decide) hr
 ·
  intro i hi hp
  refine Ev.step (fun k => slices_IndexFunc_impl_Slab_at_impl_Slab_meets.l0.eq_2 _ _ _ _ _ _ _ _) (Ev.ite_pos (by omega) (Ev.ite_pos (by omega) (Ev.ite_pos (by omega) (Ev.call (one i hi) ?_))))
  rw [hp]
  exact Ev.ite_pos rfl (Ev.now _)
 · exact Ev.step (fun k => slices_IndexFunc_impl_Slab_at_impl_Slab_meets.l0.eq_2 _ _ _ _ _ _ _ _) (Ev.ite_neg (by omega) (Ev.now _))
theorem implLoop (q : Sq) (hq : smallQ q) (hW : q.f0 ≤ 12) (hH : q.f1 ≤ 12) : Ev (fun k => impl_ValidSquare.l0 k q.f2 (q.f2.length : Int) 0 q.f0 q.f1 q.f2) (loopV (fun i (_ : Unit) => sqC q.f0 q.f1 q.f2 i) (fun _ s => s) (fun _ _ => false) (fun _ => true) q.f2.length 0 ()) := by
 obtain ⟨q0, q1, q2, q3⟩ := hq
 have inn : ∀ i, i < q.f2.length → impl_Slab_isIn.f (rd_T38 q.f2 (i : Int)).f0 (rd_T38 q.f2 (i : Int)).f1 (rd_T38 q.f2 (i : Int)).f2 (rd_T38 q.f2 (i : Int)).f3 q.f0 q.f1 q.f2 = some (lies q.f0 q.f1 (rdS q.f2 i)) := fun i hi => isIn_val q (rdS q.f2 i) ⟨q0, q1⟩ (smallQ.at ⟨q0, q1, q2, q3⟩ hi) q.f2
 have anyy : ∀ i, i < q.f2.length → Ev (fun k => slices_ContainsFunc_impl_Slab_at_impl_Slab_meets.f k (q.f2.take ((i : Int)).toNat) (rd_T38 q.f2 (i : Int)).f0 (rd_T38 q.f2 (i : Int)).f1 (rd_T38 q.f2 (i : Int)).f2 (rd_T38 q.f2 (i : Int)).f3) ((q.f2.take i).any (meets (rdS q.f2 i))) := by
  intro i hi
  rw [Int.toNat_natCast]
  exact anyMeets (rdS q.f2 i) _ (smallQ.at ⟨q0, q1, q2, q3⟩ hi) (by rw [List.length_take]; omega) (fun t ht => q3 t (List.mem_of_mem_take ht))
 refine Ev.loop (L := fun k (_ : Unit) (i : Nat) => impl_ValidSquare.l0 k q.f2 (q.f2.length : Int) i q.f0 q.f1 q.f2) q.f2.length _ _ _ _ (fun i _ => ∀ s ∈ q.f2.take i, lies 12 12 s = true) ?_ ?_ ?_ q.f2.length 0 () (by omega) (by simp)
 ·
  rintro i s hi hI hc
  unfold sqC at hc
  rw [Bool.and_eq_true, Bool.and_eq_true, Bool.not_eq_true'] at hc
  obtain ⟨⟨c1, c2⟩, c3⟩ := hc
  refine ⟨?_, fun r hr => Ev.step (fun k => impl_ValidSquare.l0.eq_2 _ _ _ _ _ _ _) ?_⟩
  ·
   intro t ht
   rw [List.take_succ_eq_append_getElem hi] at ht
   rcases List.mem_append.1 ht with ht | ht
   · exact hI t ht
   ·
    obtain rfl := List.mem_singleton.1 ht
    have e : rdS q.f2 i = q.f2[i] := rdI_get hi
    rw [e] at c1
    exact lies12 hW hH c1
  ·
   refine Ev.ite_pos (by omega) (Ev.ite_pos (by omega) (Ev.ite_pos (by omega) (Ev.call (inn i hi) ?_)))
   rw [w64_succ (by omega)]
   refine Ev.ite_pos c1 (Ev.ite_pos (by omega) (Ev.bind (anyy i hi) ?_))
   rw [c2]
   refine Ev.ite_neg (by decide) ?_
   by_cases h0 : (i : Int) > 0
   ·
    rw [w64 (x := (i : Int) - 1) (by omega) (by omega)]
    refine Ev.ite_pos h0 (Ev.ite_pos (by omega) (Ev.ite_pos (by omega) (Ev.bind (cmpS_val (rdS q.f2 ((i : Int) - 1)) (rdS q.f2 i)) (Ev.ite_neg ?_ hr))))
    rw [cmpS_pos]
    have hb : before (rdS q.f2 ((i : Int) - 1)) (rdS q.f2 i) = true := by
     rw [decide_eq_false (by omega), Bool.false_or] at c3
     exact c3
    unfold before at hb ⊢
    rw [decide_eq_true_eq] at hb ⊢
    omega
   · exact Ev.ite_neg h0 hr
 ·
  rintro i s hi hI hc
  refine Ev.step (fun k => impl_ValidSquare.l0.eq_2 _ _ _ _ _ _ _) (Ev.ite_pos (by omega) (Ev.ite_pos (by omega) (Ev.ite_pos (by omega) (Ev.call (inn i hi) ?_))))
  unfold sqC at hc
  by_cases c1 : lies q.f0 q.f1 (rdS q.f2 i) = true
  ·
   refine Ev.ite_pos c1 (Ev.ite_pos (by omega) (Ev.bind (anyy i hi) ?_))
   by_cases c2 : (q.f2.take i).any (meets (rdS q.f2 i)) = true
   · exact Ev.ite_pos c2 (Ev.now _)
   ·
    have c2' : (q.f2.take i).any (meets (rdS q.f2 i)) = false := by simpa using c2
    rw [c1, c2', Bool.not_false, Bool.true_and, Bool.true_and, Bool.or_eq_false_iff, decide_eq_false_iff_not] at hc
    obtain ⟨hc0, hcb⟩ := hc
    refine Ev.ite_neg c2 (Ev.ite_pos (by omega) ?_)
    rw [w64 (x := (i : Int) - 1) (by omega) (by omega)]
    refine Ev.ite_pos (by omega) (Ev.ite_pos (by omega) (Ev.bind (cmpS_val (rdS q.f2 ((i : Int) - 1)) (rdS q.f2 i)) (Ev.ite_pos ?_ (Ev.now _))))
    rw [cmpS_pos]
    have em : rdS q.f2 ((i : Int) - 1) ∈ q.f2.take i := by
     have e : (i : Int) - 1 = ((i - 1 : Nat) : Int) := by omega
     have e2 : rdS q.f2 ((i - 1 : Nat) : Int) = q.f2[i - 1] := rdI_get (by omega)
     rw [e, e2, List.mem_take_iff_getElem]
     exact ⟨i - 1, by omega, rfl⟩
    have hp := of_decide_eq_true (hI _ em)
    have hs := of_decide_eq_true (lies12 hW hH c1)
    have hm : ¬ meets (rdS q.f2 i) (rdS q.f2 ((i : Int) - 1)) = true := by
     rw [List.any_eq_false] at c2'
     exact c2' _ em
    unfold meets at hm
    unfold before at hcb ⊢
    rw [decide_eq_true_eq] at hm ⊢
    rw [decide_eq_false_iff_not] at hcb
    omega
  · exact Ev.ite_neg c1 (Ev.now _)
 ·
  intro s _
  exact Ev.step (fun k => impl_ValidSquare.l0.eq_2 _ _ _ _ _ _ _) (Ev.ite_neg (by omega) (Ev.now _))
theorem implValid (q : Sq) (hq : smallQ q) : Ev (fun k => impl_ValidSquare.f k q.f0 q.f1 q.f2) (sqB q) := by
 unfold impl_ValidSquare.f
 rw [small_w hq.1, small_w hq.2.1]
 have no : sqB q = false → Ev (fun k => impl_ValidSquare.j0 k true q.f0 q.f1 q.f2) (sqB q) := by
  intro e
  rw [e]
  exact Ev.step (fun k => impl_ValidSquare.j0.eq_2 _ _ _ _ _) (Ev.ite_pos rfl (Ev.now _))
 refine Ev.call (isEdge_val _) ?_
 by_cases h0 : inB q.f0 1 12 = true
 ·
  refine Ev.ite_pos h0 (Ev.call (isEdge_val _) ?_)
  by_cases h1 : inB q.f1 1 12 = true
  ·
   refine Ev.ite_pos h1 ?_
   by_cases h2 : (q.f2.length : Int) > 60
   ·
    rw [decide_eq_true h2]
    exact no (by unfold sqB; rw [show decide (q.f2.length ≤ 60) = false from decide_eq_false (by omega)]; simp)
   ·
    rw [decide_eq_false h2]
    have e : sqB q = loopV (fun i (_ : Unit) => sqC q.f0 q.f1 q.f2 i) (fun _ s => s) (fun _ _ => false) (fun _ => true) q.f2.length 0 () := by unfold sqB; rw [h0, h1, show decide (q.f2.length ≤ 60) = true from decide_eq_true (by omega)]; simp
    rw [e]
    exact Ev.step (fun k => impl_ValidSquare.j0.eq_2 _ _ _ _ _) (Ev.ite_neg (by decide) (implLoop q hq (inB_iff.1 h0).2 (inB_iff.1 h1).2))
  · exact Ev.ite_neg h1 (no (by unfold sqB; rw [show inB q.f1 1 12 = false by simpa using h1]; simp))
 · exact Ev.ite_neg h0 (no (by unfold sqB; rw [show inB q.f0 1 12 = false by simpa using h0]; simp))
def sqOf (x : S25) : Sq := ⟨x.f0, x.f1, x.f2.map slabOf⟩
theorem toSq (x : S25) (h : x.f2.length ≤ 35184372088832) : Ev (fun k => laws_toSquare.f k x.f0 x.f1 x.f2) (x.f0, x.f1, (sqOf x).f2) := by
 unfold laws_toSquare.f
 exact Ev.bind (toSlabs x.f2 h) (Ev.now _)
theorem eqSq (q : Sq) (h : q.f2.length ≤ 4611686018427387904) : Ev (fun k => laws_eqSquare.f k q.f0 q.f1 q.f2 q.f0 q.f1 q.f2) true := by
 unfold laws_eqSquare.f
 exact Ev.ite_pos rfl (Ev.ite_pos rfl (Ev.bind (eqSlabs _ h) (Ev.ite_pos rfl (Ev.now _))))
theorem szSq (x : S25) (h : x.f2.length ≤ 9223372036854775807) : laws_szSquare.f x.f0 x.f1 x.f2 1048576 = some (if (1048576 : Int) < x.f2.length then (-1 : Int) else 1048576 - (x.f2.length : Int)) := by
 unfold laws_szSquare.f
 rw [szSlabs _ _ h (by omega) (by omega), Option.bind_some]
 by_cases hc : (1048576 : Int) < x.f2.length
 · rw [if_pos hc, if_pos (by decide)]
 · rw [if_neg hc, if_neg (by omega)]
theorem wf8 {x : Int} (h : (Lit.int .i8 x).wf = true) : small x := by
 have h2 : IntKind.i8.min ≤ x ∧ x ≤ IntKind.i8.max := by simpa [Lit.wf] using h
 have e0 : IntKind.i8.min = -128 := rfl
 have e1 : IntKind.i8.max = 127 := rfl
 unfold small
 omega
end Go.Proofs.Ytpelelodjigijaa.Q
