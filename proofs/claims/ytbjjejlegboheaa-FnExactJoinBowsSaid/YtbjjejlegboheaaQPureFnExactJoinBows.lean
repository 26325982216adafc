/- The law on JoinBows answers true for every list of bows; no condition. -/
import Derived.Test.YtbjjejlegboheaaQLawJoinBows
import Derived.Test.YtbjjejlegboheaaQOpn
import Derived.Test.YtbjjejlegboheaaQBRows
import Derived.Test.YtbjjejlegboheaaQBBow
namespace Go.Proofs.Ytbjjejlegboheaa.Q
open Go.RowKit Go.Proofs.YtbjjejlegboheaaW.PrintWords Go.Proofs.YtbjjejlegboheaaW.PrintLast Go.Proofs.YtbjjejlegboheaaW.PrintMore
set_option linter.unusedVariables false

def Pure.FnExactJoinBows : Prop := ∀ (x0 : List (List Int)), (x0.length ≤ maxLen ∧ ∀ z_ ∈ x0, (z_.length ≤ maxLen ∧ ∀ z2_ ∈ z_, (Lit.int .i64 z2_).wf = true)) → ∃ k, laws_FnExactJoinBows.f k x0 = some true

def joinR (l : List (List Int)) : List Int × Int := if l.all bowB = true then (if (l.length : Int) > 10 then ([], 3) else (if (l.length : Int) = 0 then ([], 6) else (0 :: (l.map (List.drop 1)).flatten, 0))) else ([], 1)
theorem markRows (l : List (List Int)) (h : l.length + sumL l ≤ 1048576) : laws_markInt64SS.f l 1 = some (1 + (sumL l : Int)) := by
  unfold laws_markInt64SS.f
  unfold sumL at *
  rw [if_pos ⟨by decide, by omega, by omega⟩]
theorem join_len (l : List (List Int)) (h : l.length + sumL l ≤ 1048576) : (joinR l).1.length ≤ 1048577 := by
  have key : ∀ l : List (List Int), ((l.map (List.drop 1)).flatten).length ≤ sumL l := by
    intro l
    induction l with
    | nil => simp [sumL]
    | cons a l ih =>
      rw [List.map_cons, List.flatten_cons, List.length_append, List.length_drop, sumL_cons]
      omega
  have := key l
  unfold joinR
  split
  · split
    · simp
    · split
      · simp
      · show ((l.map (List.drop 1)).flatten).length + 1 ≤ _
        omega
  · simp
theorem joinS (l : List (List Int)) (h : l.length + sumL l ≤ 1048576) (hv : l.all bowB = true) : ∀ d i (a : List Int), i + d = l.length → a.length + sumL (l.drop i) ≤ 2097152 → Ev (fun k => spec_JoinBows.l1 k l a (i : Int)) (a ++ ((l.drop i).map (List.drop 1)).flatten, 0) := by
  intro d
  induction d with
  | zero =>
    intro i a hi ha
    obtain rfl : i = l.length := by omega
    refine Ev.step (fun k => spec_JoinBows.l1.eq_2 _ _ _ _) (Ev.ite_neg (by omega) ?_)
    rw [List.drop_of_length_le (Nat.le_refl _), List.map_nil, List.flatten_nil, List.append_nil]
    exact Ev.now _
  | succ d ih =>
    intro i a hi ha
    have hlt : i < l.length := by omega
    have hb := bowB_len (List.all_eq_true.1 hv _ (List.getElem_mem hlt))
    have hs : sumL (l.drop i) = l[i].length + sumL (l.drop (i + 1)) := by rw [List.drop_eq_getElem_cons hlt, sumL_cons]
    have h2 := ih (i + 1) (a ++ l[i].drop 1) (by omega) (by rw [List.length_append, List.length_drop]; omega)
    refine Ev.step (fun k => spec_JoinBows.l1.eq_2 _ _ _ _) ?_
    rw [rdL_get hlt, w64_succ (by omega), List.drop_eq_getElem_cons hlt, List.map_cons, List.flatten_cons, ← List.append_assoc]
    exact Ev.ite_pos (by omega) (Ev.ite_pos (ge0 _) (Ev.ite_pos (by omega) (Ev.ite_pos (by rw [List.length_drop]; omega) h2)))
theorem specBad (l : List (List Int)) (h : l.length + sumL l ≤ 1048576) : ∀ d i, i + d = l.length → (l.drop i).all bowB = false → Ev (fun k => spec_JoinBows.l0 k l (i : Int)) ([], 1) := by
  intro d
  induction d with
  | zero =>
    intro i hi hb
    rw [List.drop_of_length_le (by omega)] at hb
    cases hb
  | succ d ih =>
    intro i hi hb
    have hlt : i < l.length := by omega
    have hz := sumL_mem (List.getElem_mem hlt)
    rw [List.drop_eq_getElem_cons hlt, List.all_cons] at hb
    refine Ev.step (fun k => spec_JoinBows.l0.eq_2 _ _ _) (Ev.ite_pos (by omega) (Ev.ite_pos (ge0 _) (Ev.bind (by rw [rdL_get hlt]; exact specBow l[i] (by omega)) ?_)))
    by_cases hc : bowB l[i] = true
    · rw [hc, Bool.true_and] at hb
      rw [w64_succ (by omega)]
      exact Ev.ite_pos hc (ih (i + 1) (by omega) hb)
    · exact Ev.ite_neg hc (Ev.now _)
theorem specJoin (l : List (List Int)) (h : l.length + sumL l ≤ 1048576) : Ev (fun k => spec_JoinBows.f k l) (joinR l) := by
  unfold spec_JoinBows.f
  by_cases hv : l.all bowB = true
  · have key := Ev.all (L := fun k (i : Nat) => spec_JoinBows.l0 k l (i : Int)) l bowB (joinR l) ([], 1) ?_ ?_ ?_
    · rw [if_pos hv] at key
      exact key
    · intro i hi hb r hr
      have hz := sumL_mem (List.getElem_mem hi)
      refine Ev.step (fun k => spec_JoinBows.l0.eq_2 _ _ _) (Ev.ite_pos (by omega) (Ev.ite_pos (ge0 _) (Ev.bind (by rw [rdL_get hi]; exact specBow l[i] (by omega)) (Ev.ite_pos hb ?_))))
      rw [w64_succ (by omega)]
      exact hr
    · intro i hi hb
      rw [List.all_eq_true.1 hv _ (List.getElem_mem hi)] at hb
      cases hb
    · unfold joinR
      rw [if_pos hv]
      refine Ev.step (fun k => spec_JoinBows.l0.eq_2 _ _ _) (Ev.ite_neg (by omega) (Ev.if_ (fun c => Ev.ite_pos c (Ev.now _)) (fun c => Ev.ite_neg c (Ev.if_ (fun c2 => Ev.ite_pos c2 (Ev.now _)) (fun c2 => Ev.ite_neg c2 ?_)))))
      exact joinS l h hv l.length 0 [0] (by omega) (by rw [List.drop_zero]; show 1 + _ ≤ _; omega)
  · rw [show joinR l = ([], 1) from if_neg hv]
    exact specBad l h l.length 0 (by omega) (by simpa using hv)
theorem implHas2 (l : List (List Int)) (h : l.length + sumL l ≤ 1048576) : Ev (fun k => slices_ContainsFunc_int64_int64_at_impl_JoinBows_1.f k l) (!l.all bowB) := by
  unfold slices_ContainsFunc_int64_int64_at_impl_JoinBows_1.f
  refine Ev.bind (a := findFrom (fun b => !bowB b) 0 l) ?_ (Ev.eq_ (Ev.now _) (by rw [findFrom_ge, any_not]))
  unfold slices_IndexFunc_int64_int64_at_impl_JoinBows_1.f
  have one : ∀ i (hi : i < l.length), Ev (fun k => impl_JoinBows_1.f k (rd_L1 l (i : Int))) (!bowB l[i]) := by
    intro i hi
    have hz := sumL_mem (List.getElem_mem hi)
    rw [rdL_get hi]
    exact Ev.bind (implBow l[i] (by omega)) (Ev.now _)
  refine Ev.find (L := fun k i => slices_IndexFunc_int64_int64_at_impl_JoinBows_1.l0 k l (l.length : Int) (i : Int)) l (fun b => !bowB b) ?_ ?_ ?_
  · intro i hi hp r hr
    refine Ev.step (fun k => slices_IndexFunc_int64_int64_at_impl_JoinBows_1.l0.eq_2 _ _ _ _) (Ev.ite_pos (by omega) (Ev.ite_pos (ge0 _) (Ev.ite_pos (by omega) (Ev.bind (one i hi) ?_))))
    rw [w64_succ (by omega)]
    exact Ev.ite_neg (by rw [hp]; decide) hr
  · intro i hi hp
    exact Ev.step (fun k => slices_IndexFunc_int64_int64_at_impl_JoinBows_1.l0.eq_2 _ _ _ _) (Ev.ite_pos (by omega) (Ev.ite_pos (ge0 _) (Ev.ite_pos (by omega) (Ev.bind (one i hi) (Ev.ite_pos hp (Ev.now _))))))
  · exact Ev.step (fun k => slices_IndexFunc_int64_int64_at_impl_JoinBows_1.l0.eq_2 _ _ _ _) (Ev.ite_neg (by omega) (Ev.now _))
theorem joinI (l : List (List Int)) (h : l.length + sumL l ≤ 1048576) (hv : l.all bowB = true) : ∀ d i (a : List Int), i + d = l.length → a.length + sumL (l.drop i) ≤ 2097152 → Ev (fun k => impl_JoinBows.l0 k a l (l.length : Int) (i : Int)) (a ++ ((l.drop i).map (List.drop 1)).flatten, 0) := by
  intro d
  induction d with
  | zero =>
    intro i a hi ha
    obtain rfl : i = l.length := by omega
    refine Ev.step (fun k => impl_JoinBows.l0.eq_2 _ _ _ _ _) (Ev.ite_neg (by omega) ?_)
    rw [List.drop_of_length_le (Nat.le_refl _), List.map_nil, List.flatten_nil, List.append_nil]
    exact Ev.now _
  | succ d ih =>
    intro i a hi ha
    have hlt : i < l.length := by omega
    have hb := bowB_len (List.all_eq_true.1 hv _ (List.getElem_mem hlt))
    have hs : sumL (l.drop i) = l[i].length + sumL (l.drop (i + 1)) := by rw [List.drop_eq_getElem_cons hlt, sumL_cons]
    have h2 := ih (i + 1) (a ++ l[i].drop 1) (by omega) (by rw [List.length_append, List.length_drop]; omega)
    refine Ev.step (fun k => impl_JoinBows.l0.eq_2 _ _ _ _ _) ?_
    rw [rdL_get hlt, w64_succ (by omega), List.drop_eq_getElem_cons hlt, List.map_cons, List.flatten_cons, ← List.append_assoc]
    exact Ev.ite_pos (by omega) (Ev.ite_pos (ge0 _) (Ev.ite_pos (by omega) (Ev.ite_pos (by omega) (Ev.ite_pos (by rw [List.length_drop]; omega) h2))))
theorem implJoin (l : List (List Int)) (h : l.length + sumL l ≤ 1048576) : Ev (fun k => impl_JoinBows.f k l) (joinR l) := by
  unfold impl_JoinBows.f joinR
  refine Ev.bind (implHas2 l h) ?_
  by_cases hv : l.all bowB = true
  · rw [if_pos hv, hv]
    refine Ev.ite_neg (by decide) (Ev.if_ (fun c => Ev.ite_pos c (Ev.now _)) (fun c => Ev.ite_neg c (Ev.if_ (fun c2 => Ev.ite_pos c2 (Ev.now _)) (fun c2 => Ev.ite_neg c2 ?_))))
    exact joinI l h hv l.length 0 [0] (by omega) (by rw [List.drop_zero]; show 1 + _ ≤ _; omega)
  · rw [if_neg hv]
    exact Ev.ite_pos (by simpa using hv) (Ev.now _)
theorem pure_FnExactJoinBows : Pure.FnExactJoinBows := by
  rintro l ⟨hl, hm⟩
  unfold maxLen at hl
  refine Ev.rounds (g := fun k => laws_FnExactJoinBows.f k l) ?_
  unfold laws_FnExactJoinBows.f
  obtain ⟨v, hv, hr⟩ := szRows l hl (fun a ha => by have := (hm a ha).1; unfold maxLen at this; exact this)
  refine Ev.bind hv ?_
  by_cases h : v < 0
  · exact Ev.ite_pos h (Ev.now _)
  · have hb : l.length + sumL l ≤ 1048576 := by omega
    have hlen := join_len l hb
    have hS := specJoin l hb
    have hI := implJoin l hb
    have hM := markRows l hb
    generalize joinR l = R at *
    have hne : (R.2 != R.2) = false := by simp
    refine Ev.ite_neg h (Ev.bind (toRows l hb) (Ev.bind hS (Ev.bind (toRows l hb) (Ev.bind hI (Ev.bind (eqInts _ (by omega)) (Ev.ite_pos rfl ?_))))))
    rw [hne]
    refine Ev.step (fun k => laws_FnExactJoinBows.j0.eq_2 _ _ _ _ _ _ _ _) (Ev.ite_neg (by decide) (Ev.bind (toRows l hb) (Ev.bind (eqRows l (by omega)) (Ev.ite_pos rfl (Ev.call hM (Ev.ite_neg (by omega) (Ev.bind (eqInts _ (by omega)) (Ev.ite_pos rfl ?_))))))))
    rw [hne]
    refine Ev.step (fun k => laws_FnExactJoinBows.j1.eq_2 _ _ _ _ _ _) (Ev.ite_neg (by decide) (Ev.bind (markInts _ (by omega)) (Ev.bind (heldInts _ (by omega)) (Ev.ite_neg (by omega) (Ev.ite_pos rfl (Ev.bind (toRows l hb) (Ev.bind hI (Ev.bind (eqInts _ (by omega)) (Ev.ite_pos rfl ?_)))))))))
    rw [hne]
    exact Ev.step (fun k => laws_FnExactJoinBows.j2.eq_2 _ _ _ _) (Ev.ite_neg (by decide) (Ev.bind (heldInts _ (by omega)) (Ev.ite_neg (by omega) (Ev.ite_pos rfl (Ev.now _)))))
end Go.Proofs.Ytbjjejlegboheaa.Q
