/- Plain facts on sums and on the number of ways to fill: the steps commute. No program in it. -/
import Derived.Test.YtabooaeobpgadaaXQEv
namespace Go.Proofs.Ytabooaeobpgadaa.Q
open Go.RowKit Go.Proofs.YtabooaeobpgadaaW.PrintWords Go.Proofs.YtabooaeobpgadaaW.PrintLast Go.Proofs.YtabooaeobpgadaaW.PrintMore
set_option linter.unusedVariables false
set_option linter.unusedSimpArgs false
def sumN : Nat → (Nat → Int) → Int
 | 0, _ => 0
 | n + 1, g => sumN n g + g n
theorem sumN_congr {g h : Nat → Int} : ∀ n, (∀ i, i < n → g i = h i) → sumN n g = sumN n h
 | 0, _ => rfl
 | n + 1, e => by
  rw [sumN, sumN, sumN_congr n (fun i hi => e i (by omega)), e n (by omega)]
theorem sumN_zero : ∀ n, sumN n (fun _ => 0) = 0
 | 0 => rfl
 | n + 1 => by rw [sumN, sumN_zero n]; rfl
theorem sumN_add (g h : Nat → Int) : ∀ n, sumN n (fun i => g i + h i) = sumN n g + sumN n h
 | 0 => rfl
 | n + 1 => by
  rw [sumN, sumN, sumN, sumN_add g h n]
  omega
theorem sumN_swap (g : Nat → Nat → Int) (m : Nat) : ∀ n, sumN n (fun i => sumN m (fun j => g i j)) = sumN m (fun j => sumN n (fun i => g i j))
 | 0 => by
  rw [sumN]
  exact (sumN_zero m).symm
 | n + 1 => by
  rw [sumN, sumN_swap g m n, ← sumN_add]
  rfl
theorem sumN_ite {c : Prop} [Decidable c] (g : Nat → Int) (n : Nat) : (if c then sumN n g else 0) = sumN n (fun i => if c then g i else 0) := by
 by_cases h : c
 ·
  rw [if_pos h]
  exact sumN_congr n fun i _ => (if_pos h).symm
 · rw [if_neg h, show (fun i => if c then g i else 0) = fun _ => (0 : Int) from funext fun i => if_neg h, sumN_zero]
def tryN (w : Nat) (f : Nat → Int) (p n : Nat) : Int := sumN n fun k => if k * w ≤ p then f (p - k * w) else 0
def conv (w c : Nat) (f : Nat → Int) (p : Nat) : Int := tryN w f p (c + 1)
theorem two_ite (f : Nat → Int) (p a b : Nat) : (if a ≤ p then (if b ≤ p - a then f (p - a - b) else 0) else 0) = (if b ≤ p then (if a ≤ p - b then f (p - b - a) else 0) else 0) := by
 by_cases h1 : a + b ≤ p
 · rw [if_pos (by omega), if_pos (by omega), if_pos (by omega), if_pos (by omega), show p - a - b = p - b - a by omega]
 ·
  have e1 : (if a ≤ p then (if b ≤ p - a then f (p - a - b) else 0) else 0) = 0 := by
   by_cases h2 : a ≤ p
   · rw [if_pos h2, if_neg (by omega)]
   · rw [if_neg h2]
  have e2 : (if b ≤ p then (if a ≤ p - b then f (p - b - a) else 0) else 0) = 0 := by
   by_cases h2 : b ≤ p
   · rw [if_pos h2, if_neg (by omega)]
   · rw [if_neg h2]
  rw [e1, e2]
theorem conv_comm (w c w' c' : Nat) (f : Nat → Int) : conv w c (conv w' c' f) = conv w' c' (conv w c f) := by
 funext p
 unfold conv tryN
 have e1 : ∀ (w c w' c' : Nat), sumN (c + 1) (fun k => if k * w ≤ p then sumN (c' + 1) (fun k' => if k' * w' ≤ p - k * w then f (p - k * w - k' * w') else 0) else 0) = sumN (c + 1) (fun k => sumN (c' + 1) (fun k' => if k * w ≤ p then (if k' * w' ≤ p - k * w then f (p - k * w - k' * w') else 0) else 0)) := fun w c w' c' => sumN_congr _ fun k _ => sumN_ite _ _
 rw [e1 w c w' c', e1 w' c' w c, sumN_swap]
 exact sumN_congr _ fun k' _ => sumN_congr _ fun k _ => two_ite f p (k * w) (k' * w')
def fwd : List (Nat × Nat) → (Nat → Int) → Nat → Int
 | [], f => f
 | (w, c) :: t, f => fwd t (conv w c f)
def bwd (f : Nat → Int) : List (Nat × Nat) → Nat → Int
 | [] => f
 | (w, c) :: t => conv w c (bwd f t)
theorem bwd_conv (w c : Nat) (f : Nat → Int) : ∀ t, bwd (conv w c f) t = conv w c (bwd f t)
 | [] => rfl
 | (w', c') :: t => by rw [bwd, bwd, bwd_conv w c f t, conv_comm]
theorem fwd_bwd : ∀ (ws : List (Nat × Nat)) (f : Nat → Int), fwd ws f = bwd f ws
 | [], f => rfl
 | (w, c) :: t, f => by rw [fwd, fwd_bwd t, bwd_conv]; rfl
def ways0 (p : Nat) : Int := if p = 0 then 1 else 0
theorem wrap_add (a b : Int) : wrap64 (wrap64 a + wrap64 b) = wrap64 (a + b) := by
 unfold wrap64
 omega
theorem tryN_stop {w p k : Nat} (f : Nat → Int) (h : p < k * w) : ∀ d, tryN w f p (k + d) = tryN w f p k
 | 0 => rfl
 | d + 1 => by
  have h2 : k * w ≤ (k + d) * w := Nat.mul_le_mul_right _ (by omega)
  show tryN w f p (k + d) + (if (k + d) * w ≤ p then f (p - (k + d) * w) else 0) = _
  rw [if_neg (Nat.not_le.2 (Nat.lt_of_lt_of_le h h2)), tryN_stop f h d]
  exact Int.add_zero _
end Go.Proofs.Ytabooaeobpgadaa.Q
