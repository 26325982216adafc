/- Plain facts: program and reference fill a row with the same counts. -/
import Derived.Test.YtabooaeobpgadaaXQ28
import Derived.Test.YtabooaeobpgadaaXQ25
import Derived.Test.YtabooaeobpgadaaXQBTab
namespace Go.Proofs.Ytabooaeobpgadaa.Q
open Go.RowKit Go.Proofs.YtabooaeobpgadaaW.PrintWords Go.Proofs.YtabooaeobpgadaaW.PrintLast Go.Proofs.YtabooaeobpgadaaW.PrintMore
set_option linter.unusedVariables false
set_option linter.unusedSimpArgs false
theorem pickK_least {f : Nat → Int} {w p : Nat} {m : Int} : ∀ d k j, k ≤ j → j < pickK f w p m d k → ¬ (j * w ≤ p ∧ 0 ≤ f (p - j * w) ∧ f (p - j * w) + j = m)
 | 0, k, j, h1, h2 => by unfold pickK at h2; omega
 | d + 1, k, j, h1, h2 => by
  unfold pickK at h2
  by_cases h : k * w ≤ p ∧ 0 ≤ f (p - k * w) ∧ f (p - k * w) + k = m
  · rw [if_pos h] at h2; omega
  ·
   rw [if_neg h] at h2
   by_cases hj : j = k
   · rw [hj]; exact h
   · exact pickK_least d (k + 1) j (by omega) h2
def fillR (ws : List (Nat × Nat)) (N : Nat) : List Int × Int × Bool := if 0 ≤ minT ws N then (pickT ws N, minT ws N, true) else ([], 0, false)
def fineW (ws : List (Nat × Nat)) : Prop := ws.length ≤ 6 ∧ ∀ x ∈ ws, x.2 ≤ 60
theorem fineW.drop {ws : List (Nat × Nat)} (h : fineW ws) (m : Nat) : fineW (ws.drop m) := ⟨by rw [List.length_drop]; have := h.1; omega, fun x hx => h.2 x (List.mem_of_mem_drop hx)⟩
theorem minT_bound {ws : List (Nat × Nat)} (h : fineW ws) (p : Nat) : -1 ≤ minT ws p ∧ minT ws p ≤ 1000 := by
 have h1 := h.1
 rcases rowsK_ok p ws h.1 h.2 p (Nat.le_refl _) with ⟨h2, -⟩ | ⟨h2, h3, -⟩ <;> omega
theorem kw_le {k q w p : Nat} (h : k ≤ q) (hq : q * w ≤ p) : k * w ≤ p := Nat.le_trans (Nat.mul_le_mul_right _ h) hq
theorem kw_cast (k w m : Nat) (h : m = k * w) (hb : m ≤ 1000000) : wrap64 ((k : Int) * (w : Int)) = (m : Int) := by
 have h2 : (k : Int) * (w : Int) = (m : Int) := by rw [h]; simp
 rw [h2]
 clear h2 h
 exact w64 (by omega) (by omega)
theorem impl1 (l : List S66) (a2 : Int) (ws : List (Nat × Nat)) (N i p w c : Nat) (out : List Int) (x7 x8 : Int) (r : List Int × Int × Bool) (hN : N ≤ 100000) (hF : fineW ws) (hp : p ≤ N) (hi : i < ws.length) (hw : ws[i] = (w, c)) (hg : goodS a2 (rd_T66 l (i : Int)) w c) (hout : out.length ≤ 1000) (q : Nat) (m : Int)
  (hq : q = pickK (minT (ws.drop (i + 1))) w p m c 0) (hqc : q ≤ c) (hqw : q * w ≤ p) (hq0 : 0 ≤ minT (ws.drop (i + 1)) (p - q * w)) (hqm : minT (ws.drop (i + 1)) (p - q * w) + q = m)
  (hend : Ev (fun k => impl_fill.l0 k ((p - q * w : Nat) : Int) a2 (rowsK N ws) (out ++ [(q : Int)]) (m - q) l (l.length : Int) ((i + 1 : Nat) : Int) x7 x8) r) :
  ∀ d k, k + d = q → Ev (fun n => impl_fill.l1 n (p : Int) a2 (rowsK N ws) out m (i : Int) (k : Int) l (l.length : Int) (i : Int) x7 x8 (rd_T66 l (i : Int)).f0 (rd_T66 l (i : Int)).f1) r := by
 obtain ⟨g1, g2, g3, g4, g5⟩ := hg
 have hc : c ≤ 60 := by
  have := hF.2 (w, c) (by rw [← hw]; exact List.getElem_mem _)
  exact this
 have hF1 := hF.1
 have hlen := rowsK_len N ws
 have hat := rowsK_at N ws (i + 1) (by omega)
 have erow : rd_L7 (rowsK N ws) ((i + 1 : Nat) : Int) = (rowsK N (ws.drop (i + 1))).headD [] := by
  unfold rd_L7
  rw [Int.toNat_natCast]
  exact hat
 have hhead := rowsK_head N (ws.drop (i + 1))
 have common : ∀ k, k ≤ q → ∀ (A B : Nat → Option (List Int × Int × Bool)),
   (((0 ≤ minT (ws.drop (i + 1)) (p - k * w) ∧ minT (ws.drop (i + 1)) (p - k * w) + k = m) → Ev A r) ∧ (¬ (0 ≤ minT (ws.drop (i + 1)) (p - k * w) ∧ minT (ws.drop (i + 1)) (p - k * w) + k = m) → Ev B r)) →
   Ev (fun n => if 0 ≤ (wrap64 ((i : Int) + 1)) then (if (wrap64 ((i : Int) + 1)) < ((rowsK N ws).length : Int) then (if 0 ≤ (wrap64 ((p : Int) - (wrap64 ((k : Int) * (wrap64 ((wrap64 (rd_T66 l (i : Int)).f0) + a2)))))) then (if (wrap64 ((p : Int) - (wrap64 ((k : Int) * (wrap64 ((wrap64 (rd_T66 l (i : Int)).f0) + a2)))))) < ((rd_L7 (rowsK N ws) (wrap64 ((i : Int) + 1))).length : Int) then (if ((rd_T71 (rd_L7 (rowsK N ws) (wrap64 ((i : Int) + 1))) (wrap64 ((p : Int) - (wrap64 ((k : Int) * (wrap64 ((wrap64 (rd_T66 l (i : Int)).f0) + a2))))))).f0) > 0 then (if (wrap64 (((rd_T71 (rd_L7 (rowsK N ws) (wrap64 ((i : Int) + 1))) (wrap64 ((p : Int) - (wrap64 ((k : Int) * (wrap64 ((wrap64 (rd_T66 l (i : Int)).f0) + a2))))))).f1) + (k : Int))) = m then A n else B n) else B n) else none) else none) else none) else none) r := by
  intro k hk A B hAB
  have hkw : k * w ≤ p := kw_le hk hqw
  obtain ⟨z, hz⟩ : ∃ z : Nat, z = k * w := ⟨_, rfl⟩
  rw [g1, w64_succ (i := i) (by omega), erow, kw_cast k w z hz (by omega)]
  rw [← hz] at hkw hAB
  clear hz
  rw [w64 (x := (p : Int) - (z : Int)) (by omega) (by omega), show (p : Int) - (z : Int) = ((p - z : Nat) : Int) by omega]
  refine Ev.ite_pos (by omega) (Ev.ite_pos (by omega) (Ev.ite_pos (by omega) (Ev.ite_pos (by omega) ?_)))
  have hok := rowsK_ok N (ws.drop (i + 1)) (hF.drop (i + 1)).1 (hF.drop (i + 1)).2 (p - z) (by omega)
  have hb := minT_bound (hF.drop (i + 1)) (p - z)
  show Ev (fun n => if (rdF _ ((p - z : Nat) : Int)).f0 > 0 then (if wrap64 ((rdF _ ((p - z : Nat) : Int)).f1 + (k : Int)) = m then A n else B n) else B n) r
  rcases hok with ⟨o1, o2⟩ | ⟨o1, o2, o3, o4, o5⟩
  · exact Ev.ite_neg (by omega) (hAB.2 (by omega))
  ·
   refine Ev.ite_pos (by omega) ?_
   rw [o5, w64 (by omega) (by omega)]
   by_cases h : minT (ws.drop (i + 1)) (p - z) + (k : Int) = m
   · exact Ev.ite_pos h (hAB.1 ⟨o1, h⟩)
   · exact Ev.ite_neg h (hAB.2 (fun h2 => h h2.2))
 intro d
 induction d with
 | zero =>
  intro k hk
  obtain rfl : k = q := by omega
  refine Ev.step (fun n => impl_fill.l1.eq_2 _ _ _ _ _ _ _ _ _ _ _ _ _ _ _) (common k (Nat.le_refl _) _ _ ⟨fun _ => ?_, fun h => absurd ⟨hq0, hqm⟩ h⟩)
  obtain ⟨z, hz⟩ : ∃ z : Nat, z = k * w := ⟨_, rfl⟩
  have hm : m ≤ 100000 := by have := minT_bound (hF.drop (i + 1)) (p - k * w); omega
  rw [g1, kw_cast k w z hz (by omega), w64_succ (i := i) (by omega)]
  rw [← hz] at hqw hend hq0 hqm
  clear hz hq common
  rw [w64 (x := (p : Int) - (z : Int)) (by omega) (by omega), show (p : Int) - (z : Int) = ((p - z : Nat) : Int) by omega, w64 (x := m - (k : Int)) (by omega) (by omega)]
  exact Ev.ite_pos (by omega) hend
 | succ d ih =>
  intro k hk
  have hnot : ¬ (0 ≤ minT (ws.drop (i + 1)) (p - k * w) ∧ minT (ws.drop (i + 1)) (p - k * w) + k = m) := fun h => pickK_least c 0 k (by omega) (by omega) ⟨kw_le (q := q) (by omega) hqw, h⟩
  refine Ev.step (fun n => impl_fill.l1.eq_2 _ _ _ _ _ _ _ _ _ _ _ _ _ _ _) (common k (by omega) _ _ ⟨fun h => absurd h hnot, fun _ => ?_⟩)
  rw [w64_succ (i := k) (by omega)]
  exact ih (k + 1) (by omega)
theorem impl0 (l : List S66) (a2 : Int) (ws : List (Nat × Nat)) (N : Nat) (x7 x8 : Int) (hN : N ≤ 100000) (hF : fineW ws) (hg : goodL a2 l ws) :
  ∀ d i p (out : List Int), i + d = ws.length → p ≤ N → out.length = i → 0 ≤ minT (ws.drop i) p →
   Ev (fun k => impl_fill.l0 k (p : Int) a2 (rowsK N ws) out (minT (ws.drop i) p) l (l.length : Int) (i : Int) x7 x8) (out ++ pickT (ws.drop i) p, x8, true) := by
 intro d
 have hw := hg.1
 have hF1 := hF.1
 induction d with
 | zero =>
  intro i p out hi hp ho hm
  refine Ev.step (fun n => impl_fill.l0.eq_2 _ _ _ _ _ _ _ _ _ _ _) (Ev.ite_neg (by omega) ?_)
  rw [List.drop_of_length_le (show ws.length ≤ i by omega)]
  exact Ev.eq_ (Ev.now _) (by simp [pickT])
 | succ d ih =>
  intro i p out hi hp ho hm
  have hi' : i < ws.length := by omega
  obtain ⟨w, c, hwc⟩ : ∃ w c, ws[i] = (w, c) := ⟨_, _, rfl⟩
  have g := hg.2 i hi'
  rw [hwc] at g
  have ed : ws.drop i = (w, c) :: ws.drop (i + 1) := by rw [List.drop_eq_getElem_cons hi', hwc]
  rw [ed] at hm ⊢
  obtain ⟨q1, q2, q3, q4⟩ := pick_ok hm
  have hpick : pickT ((w, c) :: ws.drop (i + 1)) p = ((pickK (minT (ws.drop (i + 1))) w p (minT ((w, c) :: ws.drop (i + 1)) p) c 0 : Nat) : Int) :: pickT (ws.drop (i + 1)) (p - pickK (minT (ws.drop (i + 1))) w p (minT ((w, c) :: ws.drop (i + 1)) p) c 0 * w) := rfl
  rw [hpick]
  generalize hq : pickK (minT (ws.drop (i + 1))) w p (minT ((w, c) :: ws.drop (i + 1)) p) c 0 = q at *
  refine Ev.step (fun n => impl_fill.l0.eq_2 _ _ _ _ _ _ _ _ _ _ _) (Ev.ite_pos (by omega) (Ev.ite_pos (by omega) (Ev.ite_pos (by omega) ?_)))
  refine impl1 l a2 ws N i p w c out x7 x8 _ hN hF hp hi' hwc g (by omega) q _ hq.symm q1 q2 q3 q4 ?_ q 0 (by omega)
  have h := ih (i + 1) (p - q * w) (out ++ [(q : Int)]) (by omega) (by omega) (by simp [ho]) q3
  rw [← q4, show minT (ws.drop (i + 1)) (p - q * w) + (q : Int) - (q : Int) = minT (ws.drop (i + 1)) (p - q * w) by omega]
  rw [List.append_assoc, List.singleton_append] at h
  exact h
theorem implFill (l : List S66) (a1 a2 : Int) (ws : List (Nat × Nat)) (N : Nat) (hN : N ≤ 100000) (hF : fineW ws) (hg : goodL a2 l ws) (hs : wrap64 (a1 + a2) = (N : Int)) : Ev (fun k => impl_fill.f k l a1 a2) (fillR ws N) := by
 have hw := hg.1
 have hF1 := hF.1
 have hlen := rowsK_len N ws
 have hhead := rowsK_head N ws
 unfold impl_fill.f
 rw [hs]
 refine Ev.bind (fillings_val l a2 ws N hN (by omega) hg) ?_
 have e0 : rd_L7 (rowsK N ws) 0 = (rowsK N ws).headD [] := by cases rowsK N ws <;> rfl
 rw [e0]
 refine Ev.ite_pos (by omega) (Ev.ite_pos (by omega) (Ev.ite_pos (by omega) ?_))
 show Ev (fun k => if (rdF _ (N : Int)).f0 = 0 then _ else impl_fill.l0 k (N : Int) a2 (rowsK N ws) [] (rdF _ (N : Int)).f1 l (l.length : Int) 0 (rdF _ (N : Int)).f0 (rdF _ (N : Int)).f1) _
 unfold fillR
 rcases rowsK_ok N ws hF.1 hF.2 N (Nat.le_refl _) with ⟨o1, o2⟩ | ⟨o1, o2, o3, o4, o5⟩
 ·
  rw [if_neg (by omega)]
  exact Ev.ite_pos o2 (Ev.now _)
 ·
  rw [if_pos o1, o5]
  refine Ev.ite_neg (by omega) ?_
  have h := impl0 l a2 ws N (rdF ((rowsK N ws).headD []) (N : Int)).f0 (minT ws N) hN hF hg ws.length 0 N [] (by omega) (Nat.le_refl _) rfl o1
  exact h
theorem spec1 (l : List S66) (a2 : Int) (ws : List (Nat × Nat)) (N i p w c : Nat) (out : List Int) (al : Int) (r : List Int × Int × Bool) (hN : N ≤ 100000) (hF : fineW ws) (hp : p ≤ N) (hi : i < ws.length) (hw : ws[i] = (w, c)) (hg : goodS a2 (rd_T66 l (i : Int)) w c) (hout : out.length ≤ 1000) (q : Nat)
  (hq : q = pickK (minT (ws.drop (i + 1))) w p (minT (ws.drop i) p) c 0) (hqc : q ≤ c) (hqw : q * w ≤ p) (hq0 : 0 ≤ minT (ws.drop (i + 1)) (p - q * w)) (hqm : minT (ws.drop (i + 1)) (p - q * w) + q = minT (ws.drop i) p)
  (hend : Ev (fun k => spec_l03Fill.l0 k l a2 ((p - q * w : Nat) : Int) (tabM N ws) al (out ++ [(q : Int)]) ((i + 1 : Nat) : Int)) r) :
  ∀ d k, k + d = q → Ev (fun n => spec_l03Fill.l1 n l a2 (p : Int) (tabM N ws) al out (i : Int) (w : Int) (k : Int)) r := by
 obtain ⟨g1, g2, g3, g4, g5⟩ := hg
 have hc : c ≤ 60 := by
  have := hF.2 (w, c) (by rw [← hw]; exact List.getElem_mem _)
  exact this
 have hF1 := hF.1
 have hlen := tabM_len N ws
 have rdL : ∀ j : Nat, j ≤ ws.length → rd_L1 (tabM N ws) (j : Int) = tblM N (minT (ws.drop j)) := by
  intro j hj
  unfold rd_L1
  rw [Int.toNat_natCast]
  exact tabM_at N ws j hj
 intro d
 induction d with
 | zero =>
  intro k hk
  obtain rfl : k = q := by omega
  obtain ⟨z, hz⟩ : ∃ z : Nat, z = k * w := ⟨_, rfl⟩
  have hb := minT_bound (hF.drop (i + 1)) (p - k * w)
  refine Ev.step (fun n => spec_l03Fill.l1.eq_2 _ _ _ _ _ _ _ _ _ _) ?_
  rw [kw_cast k w z hz (by omega), w64_succ (i := i) (by omega), rdL (i + 1) (by omega), rdL i (by omega)]
  rw [← hz] at hqw hend hq0 hqm hb
  clear hz hq
  rw [w64 (x := (p : Int) - (z : Int)) (by omega) (by omega), show (p : Int) - (z : Int) = ((p - z : Nat) : Int) by omega, tblM_get N _ (by omega), tblM_get N _ (by omega), tblM_len, tblM_len, w64 (x := minT (ws.drop (i + 1)) (p - z) + (k : Int)) (by omega) (by omega)]
  exact Ev.ite_neg (by omega) (Ev.ite_pos (by omega) (Ev.ite_pos (by omega) (Ev.ite_pos (by omega) (Ev.ite_pos (by omega) (Ev.ite_neg (by omega) (Ev.ite_pos (by omega) (Ev.ite_pos (by omega) (Ev.ite_pos (by omega) (Ev.ite_pos (by omega) (Ev.ite_pos hqm (Ev.ite_pos (by omega) hend)))))))))))
 | succ d ih =>
  intro k hk
  have hkw := kw_le (k := k) (q := q) (by omega) hqw
  have hnot : ¬ (0 ≤ minT (ws.drop (i + 1)) (p - k * w) ∧ minT (ws.drop (i + 1)) (p - k * w) + k = minT (ws.drop i) p) := fun h => pickK_least c 0 k (by omega) (by omega) ⟨hkw, h⟩
  obtain ⟨z, hz⟩ : ∃ z : Nat, z = k * w := ⟨_, rfl⟩
  have hb := minT_bound (hF.drop (i + 1)) (p - k * w)
  have ih' := ih (k + 1) (by omega)
  refine Ev.step (fun n => spec_l03Fill.l1.eq_2 _ _ _ _ _ _ _ _ _ _) ?_
  rw [kw_cast k w z hz (by omega), w64_succ (i := i) (by omega), rdL (i + 1) (by omega), rdL i (by omega), w64_succ (i := k) (by omega)]
  rw [← hz] at hkw hnot hb
  clear hz hq
  rw [w64 (x := (p : Int) - (z : Int)) (by omega) (by omega), show (p : Int) - (z : Int) = ((p - z : Nat) : Int) by omega, tblM_get N _ (by omega), tblM_get N _ (by omega), tblM_len, tblM_len, w64 (x := minT (ws.drop (i + 1)) (p - z) + (k : Int)) (by omega) (by omega)]
  refine Ev.ite_neg (by omega) (Ev.ite_pos (by omega) (Ev.ite_pos (by omega) (Ev.ite_pos (by omega) (Ev.ite_pos (by omega) ?_))))
  by_cases h0 : minT (ws.drop (i + 1)) (p - z) < 0
  · exact Ev.ite_pos h0 ih'
  · exact Ev.ite_neg h0 (Ev.ite_pos (by omega) (Ev.ite_pos (by omega) (Ev.ite_pos (by omega) (Ev.ite_pos (by omega) (Ev.ite_neg (fun h => hnot ⟨by omega, h⟩) ih')))))
theorem spec0 (l : List S66) (a2 : Int) (ws : List (Nat × Nat)) (N : Nat) (al : Int) (hN : N ≤ 100000) (hF : fineW ws) (hg : goodL a2 l ws) :
  ∀ d i p (out : List Int), i + d = ws.length → p ≤ N → out.length = i → 0 ≤ minT (ws.drop i) p →
   Ev (fun k => spec_l03Fill.l0 k l a2 (p : Int) (tabM N ws) al out (i : Int)) (out ++ pickT (ws.drop i) p, al, true) := by
 intro d
 have hw := hg.1
 have hF1 := hF.1
 induction d with
 | zero =>
  intro i p out hi hp ho hm
  refine Ev.step (fun n => spec_l03Fill.l0.eq_2 _ _ _ _ _ _ _ _) (Ev.ite_neg (by omega) ?_)
  rw [List.drop_of_length_le (show ws.length ≤ i by omega)]
  exact Ev.eq_ (Ev.now _) (by simp [pickT])
 | succ d ih =>
  intro i p out hi hp ho hm
  have hi' : i < ws.length := by omega
  obtain ⟨w, c, hwc⟩ : ∃ w c, ws[i] = (w, c) := ⟨_, _, rfl⟩
  have g := hg.2 i hi'
  rw [hwc] at g
  have ed : ws.drop i = (w, c) :: ws.drop (i + 1) := by rw [List.drop_eq_getElem_cons hi', hwc]
  have hm' := hm
  rw [ed] at hm
  obtain ⟨q1, q2, q3, q4⟩ := pick_ok hm
  have hpick : pickT ((w, c) :: ws.drop (i + 1)) p = ((pickK (minT (ws.drop (i + 1))) w p (minT ((w, c) :: ws.drop (i + 1)) p) c 0 : Nat) : Int) :: pickT (ws.drop (i + 1)) (p - pickK (minT (ws.drop (i + 1))) w p (minT ((w, c) :: ws.drop (i + 1)) p) c 0 * w) := rfl
  generalize hq : pickK (minT (ws.drop (i + 1))) w p (minT ((w, c) :: ws.drop (i + 1)) p) c 0 = q at *
  refine Ev.step (fun n => spec_l03Fill.l0.eq_2 _ _ _ _ _ _ _ _) (Ev.ite_pos (by omega) (Ev.ite_pos (by omega) ?_))
  rw [g.1]
  refine spec1 l a2 ws N i p w c out al _ hN hF hp hi' hwc g (by omega) q (by rw [ed]; exact hq.symm) q1 q2 q3 (by rw [ed]; exact q4) ?_ q 0 (by omega)
  have h := ih (i + 1) (p - q * w) (out ++ [(q : Int)]) (by omega) (by omega) (by simp [ho]) q3
  rw [List.append_assoc, List.singleton_append] at h
  rw [ed, hpick]
  exact h
theorem specFill (l : List S66) (a1 a2 : Int) (ws : List (Nat × Nat)) (N : Nat) (hN : N ≤ 100000) (hF : fineW ws) (hg : goodL a2 l ws) (hs : wrap64 (a1 + a2) = (N : Int)) : Ev (fun k => spec_l03Fill.f k l a1 a2) (fillR ws N) := by
 have hw := hg.1
 have hF1 := hF.1
 have hlen := tabM_len N ws
 unfold spec_l03Fill.f
 rw [hs]
 refine Ev.bind (table_val l a2 ws N hN (by omega) hg (fun m p => ⟨(minT_bound (hF.drop m) p).1, Int.le_trans (minT_bound (hF.drop m) p).2 (by decide)⟩)) ?_
 have e0 : rd_L1 (tabM N ws) 0 = tblM N (minT ws) := by
  obtain ⟨t, ht⟩ := tabM_cons N ws
  rw [ht]
  rfl
 rw [e0, tblM_len, tblM_get N _ (by omega)]
 refine Ev.ite_pos (by omega) (Ev.ite_pos (by omega) (Ev.ite_pos (by omega) (Ev.call rfl ?_)))
 unfold fillR
 by_cases h0 : minT ws N < 0
 ·
  rw [if_neg (by omega)]
  exact Ev.ite_pos h0 (Ev.now _)
 ·
  rw [if_pos (by omega)]
  exact Ev.ite_neg h0 (spec0 l a2 ws N (minT ws N) hN hF hg ws.length 0 N [] (by omega) (Nat.le_refl _) rfl (Int.not_lt.1 h0))
theorem pickT_len : ∀ (ws : List (Nat × Nat)) (p : Nat), (pickT ws p).length = ws.length
 | [], _ => rfl
 | (w, c) :: t, p => by
  show (_ :: pickT t _).length = _
  rw [List.length_cons, List.length_cons, pickT_len t]
end Go.Proofs.Ytabooaeobpgadaa.Q
