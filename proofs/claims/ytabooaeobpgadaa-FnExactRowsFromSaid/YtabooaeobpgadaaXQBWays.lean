/- Plain facts: the program's table of fillings holds the numbers of ways. -/
import Derived.Test.YtabooaeobpgadaaXQBFill
import Derived.Test.YtabooaeobpgadaaXQBConv
namespace Go.Proofs.Ytabooaeobpgadaa.Q
open Go.RowKit Go.Proofs.YtabooaeobpgadaaW.PrintWords Go.Proofs.YtabooaeobpgadaaW.PrintLast Go.Proofs.YtabooaeobpgadaaW.PrintMore
set_option linter.unusedVariables false
set_option linter.unusedSimpArgs false
theorem wrap_wrap (a : Int) : wrap64 (wrap64 a) = wrap64 a := by
 unfold wrap64
 omega
theorem wrap0 : wrap64 0 = 0 := w64 (by omega) (by omega)
theorem wrap1 : wrap64 1 = 1 := w64 (by omega) (by omega)
theorem foldK_f0 (below : List Fl) (w at_ : Nat) (f : Nat → Int) (hb : ∀ p : Nat, p ≤ at_ → (rdF below (p : Int)).f0 = wrap64 (f p)) : ∀ k, (foldK below w at_ k).f0 = wrap64 (tryN w f at_ k)
 | 0 => by
  show (0 : Int) = wrap64 0
  rw [wrap0]
 | k + 1 => by
  have ih := foldK_f0 below w at_ f hb k
  have et : tryN w f at_ (k + 1) = tryN w f at_ k + (if k * w ≤ at_ then f (at_ - k * w) else 0) := rfl
  rw [foldK, et]
  by_cases h : k * w ≤ at_
  ·
   rw [if_pos h, if_pos h]
   have hr := hb (at_ - k * w) (Nat.sub_le _ _)
   unfold stepK
   rw [← wrap_add (tryN w f at_ k) (f (at_ - k * w)), ← ih, ← hr]
   by_cases h0 : (rdF below ((at_ - k * w : Nat) : Int)).f0 = 0
   · rw [if_pos h0, h0, Int.add_zero, ih, wrap_wrap]
   ·
    rw [if_neg h0]
    split <;> rfl
  ·
   rw [if_neg h, if_neg h, Int.add_zero]
   exact ih
theorem rowsK_f0 (N : Nat) : ∀ (ws : List (Nat × Nat)) (p : Nat), p ≤ N → (rdF ((rowsK N ws).headD []) (p : Int)).f0 = wrap64 (bwd ways0 ws p)
 | [], p, hp => by
  show (rdF (baseK N) (p : Int)).f0 = wrap64 (ways0 p)
  rw [rdF_get (by simp [baseK]; omega)]
  unfold baseK ways0
  rw [List.getElem_set]
  by_cases h : p = 0
  ·
   subst h
   rw [if_pos rfl, if_pos rfl, wrap1]
  ·
   rw [if_neg (by omega), if_neg h, List.getElem_replicate, wrap0]
   rfl
 | (w, c) :: t, p, hp => by
  show (rdF (rowK ((rowsK N t).headD []) w c N) (p : Int)).f0 = wrap64 (conv w c (bwd ways0 t) p)
  rw [rdF_get (by simp [rowK]; omega)]
  unfold rowK
  rw [List.getElem_map, List.getElem_range]
  exact foldK_f0 _ w p _ (fun q hq => rowsK_f0 N t q (by omega)) (c + 1)
end Go.Proofs.Ytabooaeobpgadaa.Q
