/- Plain facts: the fewest setts that fill a length; what the program's table of fillings holds of them. -/
import Derived.Test.YtabooaeobpgadaaXQBWays
namespace Go.Proofs.Ytabooaeobpgadaa.Q
open Go.RowKit Go.Proofs.YtabooaeobpgadaaW.PrintWords Go.Proofs.YtabooaeobpgadaaW.PrintLast Go.Proofs.YtabooaeobpgadaaW.PrintMore
set_option linter.unusedVariables false
set_option linter.unusedSimpArgs false
theorem rd_set {l : List Int} {i : Nat} (h : i < l.length) (x : Int) : rd (l.set i x) (i : Int) = x := by
 rw [rd_get (by simpa using h)]
 simp
def minK (f : Nat → Int) (w p : Nat) : Nat → Int
 | 0 => -1
 | k + 1 => if k * w ≤ p then (if 0 ≤ f (p - k * w) ∧ (minK f w p k < 0 ∨ f (p - k * w) + k < minK f w p k) then f (p - k * w) + k else minK f w p k) else minK f w p k
def minT : List (Nat × Nat) → Nat → Int
 | [] => fun p => if p = 0 then 0 else -1
 | (w, c) :: t => fun p => minK (minT t) w p (c + 1)
def okE (B M : Int) (e : Fl) (m : Int) : Prop := (m = -1 ∧ e.f0 = 0) ∨ (0 ≤ m ∧ m ≤ M ∧ 1 ≤ e.f0 ∧ e.f0 ≤ B ∧ e.f1 = m)
theorem okE.mono {B M B' M' : Int} {e : Fl} {m : Int} (h : okE B M e m) (hB : B ≤ B') (hM : M ≤ M') : okE B' M' e m := by
 rcases h with h | ⟨h1, h2, h3, h4, h5⟩
 · exact .inl h
 · exact .inr ⟨h1, by omega, h3, by omega, h5⟩
theorem stepK_ok {below : List Fl} {p k : Nat} {own : Fl} {B M X Y mf mo : Int} (hB : 0 ≤ B) (hB2 : B ≤ 4000000000000000000) (hX : 0 ≤ X) (hX2 : X ≤ 4000000000000000000) (hM : 0 ≤ M) (hM2 : M ≤ 100000) (hk : k ≤ 1000)
  (hr : okE B M (rdF below (p : Int)) mf) (ho : okE X Y own mo) (hY : M + k ≤ Y) :
  okE (X + B) Y (stepK below p k own) (if 0 ≤ mf ∧ (mo < 0 ∨ mf + k < mo) then mf + k else mo) := by
 unfold stepK
 rcases hr with ⟨r1, r2⟩ | ⟨r1, r2, r3, r4, r5⟩
 ·
  rw [if_pos r2, if_neg (by omega)]
  exact ho.mono (by omega) (by omega)
 ·
  rw [if_neg (by omega), r5]
  have e1 : wrap64 (mf + (k : Int)) = mf + k := w64 (by omega) (by omega)
  rw [e1]
  rcases ho with ⟨o1, o2⟩ | ⟨o1, o2, o3, o4, o5⟩
  ·
   rw [if_pos (Or.inl o2), if_pos ⟨r1, Or.inl (by omega)⟩]
   refine .inr ⟨by omega, by omega, ?_, ?_, rfl⟩
   ·
    show 1 ≤ wrap64 (own.f0 + (rdF below (p : Int)).f0)
    rw [w64 (by omega) (by omega)]; omega
   ·
    show wrap64 (own.f0 + (rdF below (p : Int)).f0) ≤ X + B
    rw [w64 (by omega) (by omega)]; omega
  ·
   have ew : wrap64 (own.f0 + (rdF below (p : Int)).f0) = own.f0 + (rdF below (p : Int)).f0 := w64 (by omega) (by omega)
   rw [ew, o5]
   by_cases hc : mf + (k : Int) < mo
   ·
    rw [if_pos (Or.inr hc), if_pos ⟨r1, Or.inr hc⟩]
    exact .inr ⟨by omega, by omega, by show 1 ≤ own.f0 + _; omega, by show own.f0 + _ ≤ _; omega, rfl⟩
   ·
    rw [if_neg (by rintro (h | h) <;> omega), if_neg (by rintro ⟨-, h | h⟩ <;> omega)]
    exact .inr ⟨by omega, by omega, by show 1 ≤ own.f0 + _; omega, by show own.f0 + _ ≤ _; omega, rfl⟩
theorem foldK_ok {below : List Fl} {w at_ : Nat} {f : Nat → Int} {B M : Int} (hB : 0 ≤ B) (hB2 : B ≤ 60000000000) (hM : 0 ≤ M) (hM2 : M ≤ 1000) (hb : ∀ p : Nat, p ≤ at_ → okE B M (rdF below (p : Int)) (f p)) :
  ∀ k : Nat, k ≤ 61 → okE ((k : Int) * B) (M + k) (foldK below w at_ k) (minK f w at_ k)
 | 0, _ => .inl ⟨rfl, rfl⟩
 | k + 1, hk => by
  have ih := foldK_ok hB hB2 hM hM2 hb (w := w) k (by omega)
  have e1 : ((k + 1 : Nat) : Int) * B = (k : Int) * B + B := by rw [Int.natCast_add, Int.add_mul]; simp
  have h0 : 0 ≤ (k : Int) * B := Int.mul_nonneg (by omega) hB
  have h1 : (k : Int) * B ≤ 61 * 60000000000 := Int.mul_le_mul (by omega) hB2 hB (by omega)
  rw [e1]
  generalize (k : Int) * B = X at *
  rw [foldK, minK]
  by_cases h : k * w ≤ at_
  ·
   rw [if_pos h, if_pos h]
   exact stepK_ok hB (by omega) h0 (by omega) hM (by omega) (by omega) (hb _ (Nat.sub_le _ _)) (ih.mono (Int.le_refl _) (by omega)) (by omega)
  ·
   rw [if_neg h, if_neg h]
   exact ih.mono (by omega) (by omega)
theorem pow61 (n : Nat) (h : n ≤ 6) : (1 : Int) ≤ (61 ^ n : Nat) ∧ ((61 ^ n : Nat) : Int) ≤ 60000000000 := by
 have h1 : 61 ^ n ≤ 61 ^ 6 := Nat.pow_le_pow_right (by decide) h
 have h2 : 0 < 61 ^ n := Nat.pow_pos (by decide)
 have h3 : 61 ^ 6 ≤ 60000000000 := by decide
 omega
theorem rowsK_ok (N : Nat) : ∀ (ws : List (Nat × Nat)), ws.length ≤ 6 → (∀ x ∈ ws, x.2 ≤ 60) → ∀ p : Nat, p ≤ N → okE ((61 ^ ws.length : Nat) : Int) (61 * ws.length) (rdF ((rowsK N ws).headD []) (p : Int)) (minT ws p)
 | [], _, _, p, hp => by
  show okE _ _ (rdF (baseK N) (p : Int)) (if p = 0 then 0 else -1)
  rw [rdF_get (by simp [baseK]; omega)]
  unfold baseK
  rw [List.getElem_set]
  by_cases h : p = 0
  ·
   subst h
   rw [if_pos rfl, if_pos rfl]
   exact .inr ⟨by omega, by simp, by simp, by simp, rfl⟩
  ·
   rw [if_neg (by omega), if_neg h, List.getElem_replicate]
   exact .inl ⟨rfl, rfl⟩
 | (w, c) :: t, hl, hc, p, hp => by
  have hl' : t.length + 1 ≤ 6 := hl
  have hp6 := pow61 t.length (by omega)
  have hc1 : c ≤ 60 := hc (w, c) (by simp)
  show okE _ _ (rdF (rowK ((rowsK N t).headD []) w c N) (p : Int)) (minK (minT t) w p (c + 1))
  rw [rdF_get (by simp [rowK]; omega)]
  unfold rowK
  rw [List.getElem_map, List.getElem_range]
  have h := foldK_ok (below := (rowsK N t).headD []) (w := w) (at_ := p) (f := minT t) (B := ((61 ^ t.length : Nat) : Int)) (M := 61 * t.length) (by omega) hp6.2 (by omega) (by omega) (fun q hq => rowsK_ok N t (by omega) (fun x hx => hc x (by simp [hx])) q (by omega)) (c + 1) (by omega)
  refine h.mono ?_ ?_
  ·
   rw [List.length_cons, Nat.pow_succ, Nat.mul_comm, Int.natCast_mul]
   exact Int.mul_le_mul_of_nonneg_right (by omega) (by omega)
  · rw [List.length_cons]; omega
theorem minK_cases (f : Nat → Int) (w p : Nat) : ∀ n, minK f w p n = -1 ∨ ∃ k, k < n ∧ k * w ≤ p ∧ 0 ≤ f (p - k * w) ∧ f (p - k * w) + k = minK f w p n
 | 0 => .inl rfl
 | n + 1 => by
  have ih := minK_cases f w p n
  have up : (minK f w p n = -1 ∨ ∃ k, k < n + 1 ∧ k * w ≤ p ∧ 0 ≤ f (p - k * w) ∧ f (p - k * w) + k = minK f w p n) := by
   rcases ih with h | ⟨k, h1, h2, h3, h4⟩
   · exact .inl h
   · exact .inr ⟨k, by omega, h2, h3, h4⟩
  rw [minK]
  by_cases h : n * w ≤ p
  ·
   rw [if_pos h]
   by_cases h2 : 0 ≤ f (p - n * w) ∧ (minK f w p n < 0 ∨ f (p - n * w) + n < minK f w p n)
   ·
    rw [if_pos h2]
    exact .inr ⟨n, by omega, h, h2.1, rfl⟩
   · rw [if_neg h2]; exact up
  · rw [if_neg h]; exact up
def pickK (f : Nat → Int) (w p : Nat) (m : Int) : Nat → Nat → Nat
 | 0, k => k
 | d + 1, k => if k * w ≤ p ∧ 0 ≤ f (p - k * w) ∧ f (p - k * w) + k = m then k else pickK f w p m d (k + 1)
def pickT : List (Nat × Nat) → Nat → List Int
 | [], _ => []
 | (w, c) :: t, p => ((pickK (minT t) w p (minT ((w, c) :: t) p) c 0 : Nat) : Int) :: pickT t (p - pickK (minT t) w p (minT ((w, c) :: t) p) c 0 * w)
theorem pickK_ok {f : Nat → Int} {w p : Nat} {m : Int} : ∀ d k, (∃ j, k ≤ j ∧ j ≤ k + d ∧ j * w ≤ p ∧ 0 ≤ f (p - j * w) ∧ f (p - j * w) + j = m) →
  k ≤ pickK f w p m d k ∧ pickK f w p m d k ≤ k + d ∧ pickK f w p m d k * w ≤ p ∧ 0 ≤ f (p - pickK f w p m d k * w) ∧ f (p - pickK f w p m d k * w) + (pickK f w p m d k : Nat) = m
 | 0, k, ⟨j, h1, h2, h3, h4, h5⟩ => by
  obtain rfl : j = k := by omega
  exact ⟨Nat.le_refl _, by simp [pickK], h3, h4, h5⟩
 | d + 1, k, ⟨j, h1, h2, h3, h4, h5⟩ => by
  unfold pickK
  by_cases h : k * w ≤ p ∧ 0 ≤ f (p - k * w) ∧ f (p - k * w) + k = m
  ·
   rw [if_pos h]
   exact ⟨Nat.le_refl _, by omega, h⟩
  ·
   rw [if_neg h]
   have hne : j ≠ k := by
    rintro rfl
    exact h ⟨h3, h4, h5⟩
   obtain ⟨g1, g2, g3⟩ := pickK_ok d (k + 1) ⟨j, by omega, by omega, h3, h4, h5⟩
   exact ⟨by omega, by omega, g3⟩
theorem pick_ok {w c p : Nat} {t : List (Nat × Nat)} (h : 0 ≤ minT ((w, c) :: t) p) : pickK (minT t) w p (minT ((w, c) :: t) p) c 0 ≤ c ∧ pickK (minT t) w p (minT ((w, c) :: t) p) c 0 * w ≤ p ∧ 0 ≤ minT t (p - pickK (minT t) w p (minT ((w, c) :: t) p) c 0 * w) ∧ minT t (p - pickK (minT t) w p (minT ((w, c) :: t) p) c 0 * w) + (pickK (minT t) w p (minT ((w, c) :: t) p) c 0 : Nat) = minT ((w, c) :: t) p := by
 have hx : ∃ j, 0 ≤ j ∧ j ≤ 0 + c ∧ j * w ≤ p ∧ 0 ≤ minT t (p - j * w) ∧ minT t (p - j * w) + j = minT ((w, c) :: t) p := by
  rcases minK_cases (minT t) w p (c + 1) with h2 | ⟨k, h1, h2, h3, h4⟩
  ·
   have h3 : minT ((w, c) :: t) p = -1 := h2
   omega
  · exact ⟨k, by omega, by omega, h2, h3, h4⟩
 obtain ⟨-, g2, g3⟩ := pickK_ok c 0 hx
 exact ⟨by omega, g3⟩
theorem rowsK_at (N : Nat) : ∀ (ws : List (Nat × Nat)) (i : Nat), i ≤ ws.length → (rowsK N ws).getD i [] = (rowsK N (ws.drop i)).headD []
 | ws, 0, _ => by
  rw [List.drop_zero]
  cases rowsK N ws <;> rfl
 | (w, c) :: t, i + 1, h => by
  rw [List.drop_succ_cons]
  show (rowK _ w c N :: rowsK N t).getD (i + 1) [] = _
  rw [List.getD_cons_succ]
  exact rowsK_at N t i (by simpa using h)
end Go.Proofs.Ytabooaeobpgadaa.Q
