/- Plain facts on lists of setts: how the laws convert and compare them, and which are valid. -/
import Derived.Test.YtebdblefhkcpeaaDoorQHSett
import Derived.Test.YtebdblefhkcpeaaDoorQ5
import Derived.Test.YtebdblefhkcpeaaDoorQ2
import Derived.Test.YtebdblefhkcpeaaDoorQBIn
namespace Go.Proofs.YtebdblefhkcpeaaDoor.Q
open Go.RowKit Go.Proofs.YtebdblefhkcpeaaDoorW.PrintWords Go.Proofs.YtebdblefhkcpeaaDoorW.PrintLast Go.Proofs.YtebdblefhkcpeaaDoorW.PrintMore
set_option linter.unusedSimpArgs false

def settOf (x : S35) : S35 := ⟨x.f0, x.f1⟩
theorem rdLT_get {l : List S35} {i : Nat} (h : i < l.length) : rd_T35 l (i : Int) = l[i] := by
  unfold rd_T35
  rw [Int.toNat_natCast, List.getD_eq_getElem?_getD, List.getElem?_eq_getElem h]
  rfl
theorem rdIT_get {l : List S35} {i : Nat} (h : i < l.length) : rd_T35 l (i : Int) = l[i] := by
  unfold rd_T35
  rw [Int.toNat_natCast, List.getD_eq_getElem?_getD, List.getElem?_eq_getElem h]
  rfl
theorem eqSett_refl (a b : Int) : laws_eqSett.f a b a b = some true := by simp [laws_eqSett.f]
theorem eqSetts (l : List S35) (h : l.length ≤ 4611686018427387904) : Ev (fun k => laws_eqSettS.f k l l) true := by
  unfold laws_eqSettS.f
  refine Ev.ite_pos rfl ?_
  refine Ev.run (L := fun k (_ : Unit) (i : Nat) => laws_eqSettS.l0 k l l i) l.length (fun _ s => s) (fun _ _ => True) true ?_ ?_ (d := l.length) (i := 0) (s := ()) (by omega) trivial
  · rintro i s hi _
    refine ⟨trivial, fun r hr => Ev.step (fun k => laws_eqSettS.l0.eq_2 _ _ _ _) ?_⟩
    refine Ev.ite_pos (by omega) (Ev.ite_pos (ge0 _) (Ev.ite_pos (by omega) (Ev.call (eqSett_refl _ _) (Ev.ite_pos rfl ?_))))
    rw [w64_succ (by omega)]
    exact hr
  · intro s _
    exact Ev.step (fun k => laws_eqSettS.l0.eq_2 _ _ _ _) (Ev.ite_neg (by omega) (Ev.now true))
/-- Sett i is as it has to be, beside the one before. -/
def settC (l : List S35) (i : Nat) : Bool := inB (wrap64 (rd_T35 l i).f0) 1 20 && inB (wrap64 (rd_T35 l i).f1) 0 60 && (decide (i = 0) || !decide ((rd_T35 l i).f0 ≤ (rd_T35 l ((i : Int) - 1)).f0))
def settsB (l : List S35) : Bool := loopV (fun i (_ : Unit) => settC l i) (fun _ s => s) (fun _ _ => false) (fun _ => inB l.length 1 6) l.length 0 ()
theorem specSetts (l : List S35) (h : l.length ≤ 2097152) : Ev (fun k => spec_l03Ok.f k l) (settsB l) := by
  unfold spec_l03Ok.f settsB
  refine Ev.loop (L := fun k (_ : Unit) (i : Nat) => spec_l03Ok.l0 k l i) l.length _ _ _ _ (fun _ _ => True) ?_ ?_ ?_ l.length 0 () (by omega) trivial
  · rintro i s hi _ hc
    refine ⟨trivial, fun r hr => Ev.step (fun k => spec_l03Ok.l0.eq_2 _ _ _) ?_⟩
    unfold settC at hc
    rw [Bool.and_eq_true, Bool.and_eq_true, Bool.or_eq_true, decide_eq_true_eq] at hc
    obtain ⟨⟨h1, h2⟩, h3⟩ := hc
    rw [w64_succ (by omega)]
    refine Ev.ite_pos (by omega) (Ev.ite_pos (ge0 _) (Ev.call (l00In_val _ _ _) (Ev.ite_pos h1 (Ev.call (l00In_val _ _ _) (Ev.ite_pos h2 ?_)))))
    by_cases h0 : (i : Int) > 0
    · rw [w64 (x := (i : Int) - 1) (by omega) (by omega)]
      refine Ev.ite_pos h0 (Ev.ite_pos (by omega) (Ev.ite_pos (by omega) (Ev.ite_neg ?_ hr)))
      rcases h3 with h3 | h3
      · omega
      · simpa using h3
    · exact Ev.ite_neg h0 hr
  · rintro i s hi _ hc
    refine Ev.step (fun k => spec_l03Ok.l0.eq_2 _ _ _) ?_
    unfold settC at hc
    refine Ev.ite_pos (by omega) (Ev.ite_pos (ge0 _) (Ev.call (l00In_val _ _ _) ?_))
    by_cases h1 : inB (wrap64 (rd_T35 l i).f0) 1 20 = true
    · refine Ev.ite_pos h1 (Ev.call (l00In_val _ _ _) ?_)
      by_cases h2 : inB (wrap64 (rd_T35 l i).f1) 0 60 = true
      · rw [h1, h2, Bool.true_and, Bool.true_and, Bool.or_eq_false_iff, decide_eq_false_iff_not, Bool.not_eq_false', decide_eq_true_eq] at hc
        rw [w64 (x := (i : Int) - 1) (by omega) (by omega)]
        exact Ev.ite_pos h2 (Ev.ite_pos (by omega) (Ev.ite_pos (by omega) (Ev.ite_pos (by omega) (Ev.ite_pos hc.2 (Ev.now _)))))
      · exact Ev.ite_neg h2 (Ev.now _)
    · exact Ev.ite_neg h1 (Ev.now _)
  · intro s _
    exact Ev.step (fun k => spec_l03Ok.l0.eq_2 _ _ _) (Ev.ite_neg (by omega) (Ev.call (l00In_val _ _ _) (Ev.now _)))
theorem implSetts (l : List S35) (h : l.length ≤ 2097152) : Ev (fun k => impl_ValidSetts.f k l) (settsB l) := by
  unfold impl_ValidSetts.f settsB
  refine Ev.loop (L := fun k (_ : Unit) (i : Nat) => impl_ValidSetts.l0 k l l l.length i) l.length _ _ _ _ (fun _ _ => True) ?_ ?_ ?_ l.length 0 () (by omega) trivial
  · rintro i s hi _ hc
    refine ⟨trivial, fun r hr => Ev.step (fun k => impl_ValidSetts.l0.eq_2 _ _ _ _ _) ?_⟩
    unfold settC at hc
    rw [Bool.and_eq_true, Bool.and_eq_true, Bool.or_eq_true, decide_eq_true_eq] at hc
    obtain ⟨⟨h1, h2⟩, h3⟩ := hc
    rw [w64_succ (by omega)]
    refine Ev.ite_pos (by omega) (Ev.ite_pos (ge0 _) (Ev.ite_pos (by omega) (Ev.call (within_val _ _ _) (Ev.ite_pos h1 (Ev.call (within_val _ _ _) (Ev.ite_pos h2 ?_))))))
    by_cases h0 : (i : Int) > 0
    · rw [w64 (x := (i : Int) - 1) (by omega) (by omega)]
      refine Ev.ite_pos h0 (Ev.ite_pos (by omega) (Ev.ite_pos (by omega) (Ev.ite_neg ?_ hr)))
      rcases h3 with h3 | h3
      · omega
      · simpa using h3
    · exact Ev.ite_neg h0 hr
  · rintro i s hi _ hc
    refine Ev.step (fun k => impl_ValidSetts.l0.eq_2 _ _ _ _ _) ?_
    unfold settC at hc
    refine Ev.ite_pos (by omega) (Ev.ite_pos (ge0 _) (Ev.ite_pos (by omega) (Ev.call (within_val _ _ _) ?_)))
    by_cases h1 : inB (wrap64 (rd_T35 l i).f0) 1 20 = true
    · refine Ev.ite_pos h1 (Ev.call (within_val _ _ _) ?_)
      by_cases h2 : inB (wrap64 (rd_T35 l i).f1) 0 60 = true
      · rw [h1, h2, Bool.true_and, Bool.true_and, Bool.or_eq_false_iff, decide_eq_false_iff_not, Bool.not_eq_false', decide_eq_true_eq] at hc
        rw [w64 (x := (i : Int) - 1) (by omega) (by omega)]
        exact Ev.ite_pos h2 (Ev.ite_pos (by omega) (Ev.ite_pos (by omega) (Ev.ite_pos (by omega) (Ev.ite_pos hc.2 (Ev.now _)))))
      · exact Ev.ite_neg h2 (Ev.now _)
    · exact Ev.ite_neg h1 (Ev.now _)
  · intro s _
    exact Ev.step (fun k => impl_ValidSetts.l0.eq_2 _ _ _ _ _) (Ev.ite_neg (by omega) (Ev.call (a := (l.length : Int)) rfl (Ev.call (within_val _ _ _) (Ev.now _))))
end Go.Proofs.YtebdblefhkcpeaaDoor.Q
