/- The law on SameGround, walked. -/
import Derived.Test.YthbgebikdleblaaQGrF
namespace Go.Proofs.Ythbgebikdleblaa.Q
open Go.RowKit Go.Proofs.YthbgebikdleblaaW.PrintWords Go.Proofs.YthbgebikdleblaaW.PrintLast Go.Proofs.YthbgebikdleblaaW.PrintMore
set_option linter.unusedVariables false
set_option linter.unusedSimpArgs false
namespace Gr
theorem whole {cs : List Value} {n : Nat} (h : cs.length = n) : (cs.drop 0).take n = cs := by rw [List.drop_zero, List.take_of_length_le (by omega)]
set_option maxHeartbeats 16000000 in
set_option maxRecDepth 100000 in
theorem law (a b : Int) (h : List Int) (hl : h.length = 81) (A : Option Addr) (c : Nat) (la : List S45) (a2 b2 : Int) (h2 : List Int) (hl2 : h2.length = 81) (A2 : Option Addr) (c2 : Nat) (lb : List S45) (k : Nat) (la2 lb2 : List S41) (r : Bool) (r1 r2 : Int) (w : World)
    (hr : Kd.C k45 w A la.length la) (hc : la.length ≤ c) (hr2 : Kd.C k45 w A2 lb.length lb) (hc2 : lb.length ≤ c2)
    (hz1 : laws_szCellS.f la 1048576 = some r1) (hz2 : r1 < 0 ∨ laws_szCellS.f lb r1 = some r2)
    (hfa : r1 < 0 ∨ r2 < 0 ∨ (laws_toCellS.f k la = some la2 ∧ laws_toCellS.f k lb = some lb2 ∧ spec_SameCells.f k la2 lb2 = some r ∧ impl_Cell.f k la2 lb2 = some r ∧ laws_eqCellS.f k la2 la2 = some true ∧ laws_eqCellS.f k lb2 lb2 = some true)) :
    Calls Try.prog 3 #[.agg (G84 a b h (.slice A la.length c)).toArray, .agg (G84 a2 b2 h2 (.slice A2 lb.length c2)).toArray] w fun e w' => e = .returned (.bool true) ∧ Below w.heap.size w w' := by
  have HL := Aside0.mk hl
  have HM := Aside0.mk hl2
  have HR := Aside0.mk hr
  have HC := Aside0.mk hc
  have HR2 := Aside0.mk hr2
  have HC2 := Aside0.mk hc2
  have HZ1 := Aside0.mk hz1
  have I1 := Aside0.mk (show (G84 a b h (.slice A la.length c)).length = 84 by rw [G84_length, hl])
  have I2 := Aside0.mk (show (G84 a2 b2 h2 (.slice A2 lb.length c2)).length = 84 by rw [G84_length, hl2])
  clear hr hc hr2 hc2 hz1
  have HB := Aside0.mk (Below.refl w.heap.size w)
  by_cases d1 : r1 < 0
  · have E1 := Aside0.mk (show (if r1 < 0 then -1 else r1) = -1 from if_pos d1)
    clear hl hl2 hz2 hfa d1
    go_enter Try.func3, Try.ntmps3
    go_wp2_with (first | ((with_reducible refine gate_dst (N := 2) rfl ?_); refine Gr.box_seg ?hg (N := 2) ?hd (t := 28) (x := .tmp 0) (cs := G84 a b h (.slice A la.length c)) ?ho ?hx ?_; (case hg => rfl); (case hd => rfl); (case ho => rfl); (case hx => rfl); intro g1 hg w1 hb hB; have HB1 := Aside0.mk (below_step HB.out hB); have K1 := Aside0.mk hb; clear HB hB hb hg; have HB := HB1; clear HB1) | ((with_reducible refine gate_dst (N := 3) rfl ?_); refine Gr.box_seg ?hg (N := 3) ?hd (t := 28) (x := .tmp 1) (cs := G84 a2 b2 h2 (.slice A2 lb.length c2)) ?ho ?hx ?_; (case hg => rfl); (case hd => rfl); (case ho => rfl); (case hx => rfl); intro g2 hg w1 hb hB; have K1' := Aside0.mk (blk_below K1.out hB); have HB2 := Aside0.mk (below_step HB.out hB); have K2 := Aside0.mk hb; clear K1 HB hB hb hg; have K1 := K1'; have HB := HB2; clear K1' HB2) | ((with_reducible refine gate_dst (N := 10) rfl ?_); refine Gr.load_all ?hg (N := 10) ?hd (t := 28) (te := 28) (x := .tmp 2) ?ho (g := g1) (n := 84) (cs := G84 a b h (.slice A la.length c)) ?hp K1.out I1.out Try.underlying28 rfl Gr.size28 ?_; (case hg => rfl); (case hd => rfl); (case ho => rfl); (case hp => first | (go_simp; done) | rfl)) | ((with_reducible refine gate_dst (N := 12) rfl ?_); refine goesL_ (some 12) rfl rfl Try.func4 (by kernel_rfl) rfl #[.agg (G84 a b h (.slice A la.length c)).toArray, .int .i64 1048576] rfl (by (try simp only [List.map_toArray, List.map_cons, List.map_nil]); first | done | (go_simp; done) | rfl) ?_; refine (szG a b h HL.out A c la 1048576 r1 _ (Kd.C_below HR.out HB.out) HC.out HZ1.out).mono ?_; rintro e w5 ⟨rfl, hB⟩; refine ⟨_, rfl, ?_⟩; rw [E1.out]; have K1' := Aside0.mk (blk_below K1.out hB); have K2' := Aside0.mk (blk_below K2.out hB); have HB' := Aside0.mk (below_step HB.out hB); clear hB K1 K2 HB; have K1 := K1'; have K2 := K2'; have HB := HB'; clear K1' K2' HB'))
    go_ret
    exact ⟨rfl, HB.out⟩
  · have hz3 : laws_szCellS.f lb r1 = some r2 := hz2.resolve_left d1
    have HZ2 := Aside0.mk hz3
    have E1 := Aside0.mk (show (if r1 < 0 then -1 else r1) = r1 from if_neg d1)
    have e1' : decide (r1 < 0) = false := decide_eq_false d1
    by_cases d2 : r2 < 0
    · have E2 := Aside0.mk (show (if r2 < 0 then -1 else r2) = -1 from if_pos d2)
      clear hl hl2 hz2 hfa hz3 d1 d2
      go_enter Try.func3, Try.ntmps3
      go_wp2_with (first | ((with_reducible refine gate_dst (N := 2) rfl ?_); refine Gr.box_seg ?hg (N := 2) ?hd (t := 28) (x := .tmp 0) (cs := G84 a b h (.slice A la.length c)) ?ho ?hx ?_; (case hg => rfl); (case hd => rfl); (case ho => rfl); (case hx => rfl); intro g1 hg w1 hb hB; have HB1 := Aside0.mk (below_step HB.out hB); have K1 := Aside0.mk hb; clear HB hB hb hg; have HB := HB1; clear HB1) | ((with_reducible refine gate_dst (N := 3) rfl ?_); refine Gr.box_seg ?hg (N := 3) ?hd (t := 28) (x := .tmp 1) (cs := G84 a2 b2 h2 (.slice A2 lb.length c2)) ?ho ?hx ?_; (case hg => rfl); (case hd => rfl); (case ho => rfl); (case hx => rfl); intro g2 hg w1 hb hB; have K1' := Aside0.mk (blk_below K1.out hB); have HB2 := Aside0.mk (below_step HB.out hB); have K2 := Aside0.mk hb; clear K1 HB hB hb hg; have K1 := K1'; have HB := HB2; clear K1' HB2) | ((with_reducible refine gate_dst (N := 10) rfl ?_); refine Gr.load_all ?hg (N := 10) ?hd (t := 28) (te := 28) (x := .tmp 2) ?ho (g := g1) (n := 84) (cs := G84 a b h (.slice A la.length c)) ?hp K1.out I1.out Try.underlying28 rfl Gr.size28 ?_; (case hg => rfl); (case hd => rfl); (case ho => rfl); (case hp => first | (go_simp; done) | rfl)) | ((with_reducible refine gate_dst (N := 15) rfl ?_); refine Gr.load_all ?hg (N := 15) ?hd (t := 28) (te := 28) (x := .tmp 3) ?ho (g := g2) (n := 84) (cs := G84 a2 b2 h2 (.slice A2 lb.length c2)) ?hp K2.out I2.out Try.underlying28 rfl Gr.size28 ?_; (case hg => rfl); (case hd => rfl); (case ho => rfl); (case hp => first | (go_simp; done) | rfl)) | ((with_reducible refine gate_dst (N := 12) rfl ?_); refine goesL_ (some 12) rfl rfl Try.func4 (by kernel_rfl) rfl #[.agg (G84 a b h (.slice A la.length c)).toArray, .int .i64 1048576] rfl (by (try simp only [List.map_toArray, List.map_cons, List.map_nil]); first | done | (go_simp; done) | rfl) ?_; refine (szG a b h HL.out A c la 1048576 r1 _ (Kd.C_below HR.out HB.out) HC.out HZ1.out).mono ?_; rintro e w5 ⟨rfl, hB⟩; refine ⟨_, rfl, ?_⟩; rw [E1.out]; have K1' := Aside0.mk (blk_below K1.out hB); have K2' := Aside0.mk (blk_below K2.out hB); have HB' := Aside0.mk (below_step HB.out hB); clear hB K1 K2 HB; have K1 := K1'; have K2 := K2'; have HB := HB'; clear K1' K2' HB') | ((with_reducible refine gate_dst (N := 17) rfl ?_); refine goesL_ (some 17) rfl rfl Try.func4 (by kernel_rfl) rfl #[.agg (G84 a2 b2 h2 (.slice A2 lb.length c2)).toArray, .int .i64 r1] rfl (by (try simp only [List.map_toArray, List.map_cons, List.map_nil]); first | done | (go_simp; done) | rfl) ?_; refine (szG a2 b2 h2 HM.out A2 c2 lb r1 r2 _ (Kd.C_below HR2.out HB.out) HC2.out HZ2.out).mono ?_; rintro e w6 ⟨rfl, hB⟩; refine ⟨_, rfl, ?_⟩; rw [E2.out]; have K1' := Aside0.mk (blk_below K1.out hB); have K2' := Aside0.mk (blk_below K2.out hB); have HB' := Aside0.mk (below_step HB.out hB); clear hB K1 K2 HB; have K1 := K1'; have K2 := K2'; have HB := HB'; clear K1' K2' HB'))
      go_ret
      exact ⟨rfl, HB.out⟩
    · have E2 := Aside0.mk (show (if r2 < 0 then -1 else r2) = r2 from if_neg d2)
      have e2' : decide (r2 < 0) = false := decide_eq_false d2
      obtain ⟨f1, f2, f3, f4, f5, f6⟩ := (hfa.resolve_left d1).resolve_left d2
      have FA := Aside0.mk (fun (w' : World) (hB : Below w.heap.size w w') => toG a b h hl A c la la2 k w' (Kd.C_below HR.out hB) HC.out f1)
      have FB := Aside0.mk (fun (w' : World) (hB : Below w.heap.size w w') => toG a2 b2 h2 hl2 A2 c2 lb lb2 k w' (Kd.C_below HR2.out hB) HC2.out f2)
      have HS := fun (A : Option Addr) (c : Nat) (A2 : Option Addr) (c2 : Nat) (w' : World) (q1 : Kd.C k41 w' A la2.length la2) (q2 : la2.length ≤ c) (q3 : Kd.C k41 w' A2 lb2.length lb2) (q4 : lb2.length ≤ c2) => specSame a b h hl A c la2 a2 b2 h2 hl2 A2 c2 lb2 k r w' q1 q2 q3 q4 f3
      have HI := fun (A : Option Addr) (c : Nat) (A2 : Option Addr) (c2 : Nat) (w' : World) (q1 : Kd.C k41 w' A la2.length la2) (q2 : la2.length ≤ c) (q3 : Kd.C k41 w' A2 lb2.length lb2) (q4 : lb2.length ≤ c2) => implSame a b h hl A c la2 a2 b2 h2 hl2 A2 c2 lb2 k r w' q1 q2 q3 q4 f4
      have EA := Aside0.mk (fun (A : Option Addr) (c : Nat) (A2 : Option Addr) (c2 : Nat) (w' : World) (q1 : Kd.C k41 w' A la2.length la2) (q2 : la2.length ≤ c) (q3 : Kd.C k41 w' A2 la2.length la2) (q4 : la2.length ≤ c2) => eqG a b h hl A c la2 A2 c2 la2 k w' q1 q2 q3 q4 f5)
      have EB := Aside0.mk (fun (A : Option Addr) (c : Nat) (A2 : Option Addr) (c2 : Nat) (w' : World) (q1 : Kd.C k41 w' A lb2.length lb2) (q2 : lb2.length ≤ c) (q3 : Kd.C k41 w' A2 lb2.length lb2) (q4 : lb2.length ≤ c2) => eqG a2 b2 h2 hl2 A c lb2 A2 c2 lb2 k w' q1 q2 q3 q4 f6)
      generalize (decide (a = a2 ∧ b = b2 ∧ h = h2) && r) = b0 at HS HI
      have HS_ := Aside0.mk HS
      have HI_ := Aside0.mk HI
      clear HS HI
      have HS := HS_
      have HI := HI_
      clear HS_ HI_ hl hl2 hz2 hfa hz3 d1 d2 f1 f2 f3 f4 f5 f6
      go_enter Try.func3, Try.ntmps3
      go_wp2_with (first | ((with_reducible refine gate_dst (N := 2) rfl ?_); refine Gr.box_seg ?hg (N := 2) ?hd (t := 28) (x := .tmp 0) (cs := G84 a b h (.slice A la.length c)) ?ho ?hx ?_; (case hg => rfl); (case hd => rfl); (case ho => rfl); (case hx => rfl); intro g1 hg w1 hb hB; have HB1 := Aside0.mk (below_step HB.out hB); have K1 := Aside0.mk hb; clear HB hB hb hg; have HB := HB1; clear HB1) | ((with_reducible refine gate_dst (N := 3) rfl ?_); refine Gr.box_seg ?hg (N := 3) ?hd (t := 28) (x := .tmp 1) (cs := G84 a2 b2 h2 (.slice A2 lb.length c2)) ?ho ?hx ?_; (case hg => rfl); (case hd => rfl); (case ho => rfl); (case hx => rfl); intro g2 hg w1 hb hB; have K1' := Aside0.mk (blk_below K1.out hB); have HB2 := Aside0.mk (below_step HB.out hB); have K2 := Aside0.mk hb; clear K1 HB hB hb hg; have K1 := K1'; have HB := HB2; clear K1' HB2) | ((with_reducible refine gate_dst (N := 10) rfl ?_); refine Gr.load_all ?hg (N := 10) ?hd (t := 28) (te := 28) (x := .tmp 2) ?ho (g := g1) (n := 84) (cs := G84 a b h (.slice A la.length c)) ?hp K1.out I1.out Try.underlying28 rfl Gr.size28 ?_; (case hg => rfl); (case hd => rfl); (case ho => rfl); (case hp => first | (go_simp; done) | rfl)) | ((with_reducible refine gate_dst (N := 15) rfl ?_); refine Gr.load_all ?hg (N := 15) ?hd (t := 28) (te := 28) (x := .tmp 3) ?ho (g := g2) (n := 84) (cs := G84 a2 b2 h2 (.slice A2 lb.length c2)) ?hp K2.out I2.out Try.underlying28 rfl Gr.size28 ?_; (case hg => rfl); (case hd => rfl); (case ho => rfl); (case hp => first | (go_simp; done) | rfl)) | ((with_reducible refine gate_dst (N := 12) rfl ?_); refine goesL_ (some 12) rfl rfl Try.func4 (by kernel_rfl) rfl #[.agg (G84 a b h (.slice A la.length c)).toArray, .int .i64 1048576] rfl (by (try simp only [List.map_toArray, List.map_cons, List.map_nil]); first | done | (go_simp; done) | rfl) ?_; refine (szG a b h HL.out A c la 1048576 r1 _ (Kd.C_below HR.out HB.out) HC.out HZ1.out).mono ?_; rintro e w5 ⟨rfl, hB⟩; refine ⟨_, rfl, ?_⟩; rw [E1.out]; have K1' := Aside0.mk (blk_below K1.out hB); have K2' := Aside0.mk (blk_below K2.out hB); have HB' := Aside0.mk (below_step HB.out hB); clear hB K1 K2 HB; have K1 := K1'; have K2 := K2'; have HB := HB'; clear K1' K2' HB') | ((with_reducible refine gate_dst (N := 17) rfl ?_); refine goesL_ (some 17) rfl rfl Try.func4 (by kernel_rfl) rfl #[.agg (G84 a2 b2 h2 (.slice A2 lb.length c2)).toArray, .int .i64 r1] rfl (by (try simp only [List.map_toArray, List.map_cons, List.map_nil]); first | done | (go_simp; done) | rfl) ?_; refine (szG a2 b2 h2 HM.out A2 c2 lb r1 r2 _ (Kd.C_below HR2.out HB.out) HC2.out HZ2.out).mono ?_; rintro e w6 ⟨rfl, hB⟩; refine ⟨_, rfl, ?_⟩; rw [E2.out]; have K1' := Aside0.mk (blk_below K1.out hB); have K2' := Aside0.mk (blk_below K2.out hB); have HB' := Aside0.mk (below_step HB.out hB); clear hB K1 K2 HB; have K1 := K1'; have K2 := K2'; have HB := HB'; clear K1' K2' HB'))
      have K1' := Aside0.mk (blk_drew K1.out)
      have K2' := Aside0.mk (blk_drew K2.out)
      have HB' := Aside0.mk (below_drew1 HB.out)
      clear K1 K2 HB
      have K1 := K1'
      have K2 := K2'
      have HB := HB'
      clear K1' K2' HB'
      refine start_ (n := 6) (S := fun w' => w'.heap[g1]? = some (.cells (G84 a b h (.slice A la.length c)).toArray 28 (0, 0)) ∧ w'.heap[g2]? = some (.cells (G84 a2 b2 h2 (.slice A2 lb.length c2)).toArray 28 (0, 0))) (ds := []) #[false, false, false, false, false, false] (by kernel_rfl) rfl rfl ⟨K1.out, K2.out⟩ (fun hHeld => ?_)
      generalize w6.drew = w39 at K1 K2 HB hHeld ⊢
      refine take_ (i := 0) (N := some 20) (v := .agg (G84 a b h (.slice A la.length c)).toArray) (a' := ?_) #[true, false, false, false, false, false] rfl rfl (by kernel_rfl) (fun _ _ _ h => h) (Or.inl ⟨by rfl, fun w' s => load_run (t := 28) (te := 28) (x := .tmp 2) rfl (g := g1) (off := 0) (n := 84) (by first | (go_simp; done) | rfl) s.1 (whole I1.out) I1.out Try.underlying28 rfl size28⟩) hHeld ?_ ?_
      rotate_left
      · simp only [Act.put, List.setIfInBounds_toArray, List.set_cons_zero, List.set_cons_succ, i64_w, i32_w]
        rfl
      refine take_ (i := 2) (N := some 22) (v := .agg (G84 a2 b2 h2 (.slice A2 lb.length c2)).toArray) (a' := ?_) #[true, false, true, false, false, false] rfl rfl (by kernel_rfl) (fun _ _ _ h => h) (Or.inl ⟨by rfl, fun w' s => load_run (t := 28) (te := 28) (x := .tmp 3) rfl (g := g2) (off := 0) (n := 84) (by first | (go_simp; done) | rfl) s.2 (whole I2.out) I2.out Try.underlying28 rfl size28⟩) hHeld ?_ ?_
      rotate_left
      · simp only [Act.put, List.setIfInBounds_toArray, List.set_cons_zero, List.set_cons_succ, i64_w, i32_w]
        rfl
      refine one_ (i := 1) (N := some 21) #[true, true, true, false, false, false] rfl rfl (by kernel_rfl) (by decide) (fun K hK => ?_)
      refine goes_ Try.func6 (by kernel_rfl) rfl #[.agg (G84 a b h (.slice A la.length c)).toArray] (by rfl) rfl rfl (by (try simp only [List.map_toArray, List.map_cons, List.map_nil]); first | done | (go_simp; done) | rfl) ?_
      refine (FA.out _ HB.out).mono ?_
      rintro e w5 ⟨v21, rfl, ho, hB⟩
      refine ⟨_, rfl, ?_⟩
      have hsz_ := below_size HB.out
      have K1' := Aside0.mk (blk_below K1.out hB)
      have K2' := Aside0.mk (blk_below K2.out hB)
      have HB' := Aside0.mk (below_step HB.out hB)
      clear hB K1 K2 HB
      have K1 := K1'
      have K2 := K2'
      have HB := HB'
      clear K1' K2' HB'
      have V21 := Aside0.mk (Kd.R_lower ho hsz_)
      clear ho hsz_
      obtain ⟨A21, c21, e_⟩ := Kd.R_slice V21.out
      subst e_
      clear hHeld
      refine hK.out _ _ ⟨K1.out, K2.out⟩ (fun hHeld => ?_)
      clear hK K
      refine norm_ (a' := ?_) ?_ ?_
      rotate_left
      · show Act.put _ (some 21) _ = _
        simp only [Act.put, List.setIfInBounds_toArray, List.set_cons_zero, List.set_cons_succ, i64_w, i32_w]
        rfl
      refine one_ (i := 3) (N := some 23) #[true, true, true, true, false, false] rfl rfl (by kernel_rfl) (by decide) (fun K hK => ?_)
      refine goes_ Try.func6 (by kernel_rfl) rfl #[.agg (G84 a2 b2 h2 (.slice A2 lb.length c2)).toArray] (by rfl) rfl rfl (by (try simp only [List.map_toArray, List.map_cons, List.map_nil]); first | done | (go_simp; done) | rfl) ?_
      refine (FB.out _ HB.out).mono ?_
      rintro e w5 ⟨v23, rfl, ho, hB⟩
      refine ⟨_, rfl, ?_⟩
      have hsz_ := below_size HB.out
      have K1' := Aside0.mk (blk_below K1.out hB)
      have K2' := Aside0.mk (blk_below K2.out hB)
      have V21' := Aside0.mk (Kd.R_below V21.out hB)
      have HB' := Aside0.mk (below_step HB.out hB)
      clear hB K1 K2 V21 HB
      have K1 := K1'
      have K2 := K2'
      have V21 := V21'
      have HB := HB'
      clear K1' K2' V21' HB'
      have V23 := Aside0.mk (Kd.R_lower ho hsz_)
      clear ho hsz_
      obtain ⟨A23, c23, e_⟩ := Kd.R_slice V23.out
      subst e_
      clear hHeld
      refine hK.out _ _ ⟨K1.out, K2.out⟩ (fun hHeld => ?_)
      clear hK K
      refine norm_ (a' := ?_) ?_ ?_
      rotate_left
      · show Act.put _ (some 23) _ = _
        simp only [Act.put, List.setIfInBounds_toArray, List.set_cons_zero, List.set_cons_succ, i64_w, i32_w]
        rfl
      refine one_ (i := 4) (N := some 24) #[true, true, true, true, true, false] rfl rfl (by kernel_rfl) (by decide) (fun K hK => ?_)
      refine goes_ Try.func5 (by kernel_rfl) rfl #[.agg (G84 a b h (.slice A21 la2.length c21)).toArray, .agg (G84 a2 b2 h2 (.slice A23 lb2.length c23)).toArray] (by rfl) rfl rfl (by (try simp only [List.map_toArray, List.map_cons, List.map_nil]); first | done | (go_simp; done) | rfl) ?_
      refine (HS.out A21 c21 A23 c23 _ (Kd.R_reads' V21.out).2.2 (Kd.R_reads' V21.out).2.1 (Kd.R_reads' V23.out).2.2 (Kd.R_reads' V23.out).2.1).mono ?_
      rintro e w5 ⟨rfl, hB⟩
      refine ⟨_, rfl, ?_⟩
      have K1' := Aside0.mk (blk_below K1.out hB)
      have K2' := Aside0.mk (blk_below K2.out hB)
      have HB' := Aside0.mk (below_step HB.out hB)
      clear hB K1 K2 HB
      have K1 := K1'
      have K2 := K2'
      have HB := HB'
      clear K1' K2' HB'
      clear V21 V23
      clear hHeld
      refine hK.out _ _ ⟨K1.out, K2.out⟩ (fun hHeld => ?_)
      clear hK K
      refine norm_ (a' := ?_) ?_ ?_
      rotate_left
      · show Act.put _ (some 24) _ = _
        simp only [Act.put, List.setIfInBounds_toArray, List.set_cons_zero, List.set_cons_succ, i64_w, i32_w]
        rfl
      refine pure_ (i := 5) (N := some 6) (v := ?_) (a' := ?_) #[true, true, true, true, true, true] rfl rfl (by kernel_rfl) (fun _ _ _ h => h) (Or.inl ⟨by rfl, ?_⟩) ?_ ?_
      rotate_left
      · intro w'
        go_simp
        with_reducible rfl
      rotate_left
      · simp only [Act.put, List.setIfInBounds_toArray, List.set_cons_zero, List.set_cons_succ, i64_w, i32_w]
        rfl
      refine done_ (by kernel_rfl) ?_
      (try clear hHeld)
      go_wp2_with (first | ((with_reducible refine gate_dst (N := 25) rfl ?_); refine Gr.load_all ?hg (N := 25) ?hd (t := 28) (te := 28) (x := .tmp 2) ?ho (g := g1) (n := 84) (cs := G84 a b h (.slice A la.length c)) ?hp K1.out I1.out Try.underlying28 rfl Gr.size28 ?_; (case hg => rfl); (case hd => rfl); (case ho => rfl); (case hp => first | (go_simp; done) | rfl)) | ((with_reducible refine gate_dst (N := 26) rfl ?_); refine goesL_ (some 26) rfl rfl Try.func6 (by kernel_rfl) rfl #[.agg (G84 a b h (.slice A la.length c)).toArray] rfl (by (try simp only [List.map_toArray, List.map_cons, List.map_nil]); first | done | (go_simp; done) | rfl) ?_; refine (FA.out _ HB.out).mono ?_; rintro e w7 ⟨v26, rfl, ho, hB⟩; refine ⟨_, rfl, ?_⟩; have hsz_ := below_size HB.out; have K1' := Aside0.mk (blk_below K1.out hB); have K2' := Aside0.mk (blk_below K2.out hB); have HB' := Aside0.mk (below_step HB.out hB); clear hB K1 K2 HB; have K1 := K1'; have K2 := K2'; have HB := HB'; clear K1' K2' HB'; have V7 := Aside0.mk (Kd.R_lower ho hsz_); clear ho hsz_; obtain ⟨A7, c7, e_⟩ := Kd.R_slice V7.out; subst e_) | ((with_reducible refine gate_dst (N := 7) rfl ?_); refine Gr.alloc_seg ?hg (N := 7) ?hd (t := 33) (cs := G84 0 0 (arrZ 81) (.slice none 0 0)) ?ho Gr.zero33 ?_; (case hg => rfl); (case hd => rfl); (case ho => rfl); intro g7 hg w8 hb hB; have NE_K1_g7 := Aside0.mk (show g1 ≠ g7 by rw [hg]; exact Nat.ne_of_lt (blk_lt K1.out)); have NE_K2_g7 := Aside0.mk (show g2 ≠ g7 by rw [hg]; exact Nat.ne_of_lt (blk_lt K2.out)); have GE_g7 := Aside0.mk (show w.heap.size ≤ g7 by rw [hg]; exact below_size HB.out); have K1' := Aside0.mk (blk_below K1.out hB); have K2' := Aside0.mk (blk_below K2.out hB); have V7' := Aside0.mk (Kd.R_below (Kd.R_mono (Kd.R_bound V7.out) (ok' := fun k_ => k_ ≠ g7) (fun k_ hk_ e_ => by have h1 := hk_.2.2.1; omega)) hB); have HB' := Aside0.mk (below_step HB.out hB); have KN := Aside0.mk hb; clear hB hb hg K1 K2 V7 HB; have K1 := K1'; have K2 := K2'; have V7 := V7'; have HB := HB'; clear K1' K2' V7' HB') | ((with_reducible refine gate_store (t := 33) (p := 7) rfl ?_); have hi_ : (G84 a b h (.slice A7 la2.length c7)).length = 84 := (G84_length _ _ _ _).trans (by first | rw [HL.out] | rw [HM.out]); refine Gr.store_all ?hg ?hn (t := 33) (te := 33) (p := 7) (v := .tmp 26) ?ho (g := g7) (n := 84) (cs := G84 0 0 (arrZ 81) (.slice none 0 0)) (seg := G84 a b h (.slice A7 la2.length c7)) ?hp ?hv KN.out (by rw [G84_length, z81]) hi_ Gr.size33 (G84_one rfl) ?_; (case hg => rfl); (case hn => rfl); (case ho => rfl); (case hp => first | (go_simp; done) | rfl); (case hv => first | (go_simp; done) | rfl); intro w9 hgr hb; have K1' := Aside0.mk (Gr.blk_grown K1.out hgr NE_K1_g7.out); have K2' := Aside0.mk (Gr.blk_grown K2.out hgr NE_K2_g7.out); have V7' := Aside0.mk (Kd.R_mono (Kd.R_grown V7.out hgr (fun k_ hk_ e_ => hk_ (Option.some.inj e_))) (ok' := fun _ => True) (fun _ _ => trivial)); have HB' := Aside0.mk (Gr.below_grown HB.out hgr (below_size HB.out) GE_g7.out); have K7 := Aside0.mk hb; have I7 := Aside0.mk hi_; clear hb hgr hi_ KN K1 K2 V7 HB; have K1 := K1'; have K2 := K2'; have V7 := V7'; have HB := HB'; clear K1' K2' V7' HB') | ((with_reducible refine gate_dst (N := 27) rfl ?_); refine Gr.load_all ?hg (N := 27) ?hd (t := 28) (te := 28) (x := .tmp 3) ?ho (g := g2) (n := 84) (cs := G84 a2 b2 h2 (.slice A2 lb.length c2)) ?hp K2.out I2.out Try.underlying28 rfl Gr.size28 ?_; (case hg => rfl); (case hd => rfl); (case ho => rfl); (case hp => first | (go_simp; done) | rfl)) | ((with_reducible refine gate_dst (N := 28) rfl ?_); refine goesL_ (some 28) rfl rfl Try.func6 (by kernel_rfl) rfl #[.agg (G84 a2 b2 h2 (.slice A2 lb.length c2)).toArray] rfl (by (try simp only [List.map_toArray, List.map_cons, List.map_nil]); first | done | (go_simp; done) | rfl) ?_; refine (FB.out _ HB.out).mono ?_; rintro e w7 ⟨v28, rfl, ho, hB⟩; refine ⟨_, rfl, ?_⟩; have hsz_ := below_size HB.out; have K1' := Aside0.mk (blk_below K1.out hB); have K2' := Aside0.mk (blk_below K2.out hB); have K7' := Aside0.mk (blk_below K7.out hB); have V7' := Aside0.mk (Kd.R_below V7.out hB); have HB' := Aside0.mk (below_step HB.out hB); clear hB K1 K2 K7 V7 HB; have K1 := K1'; have K2 := K2'; have K7 := K7'; have V7 := V7'; have HB := HB'; clear K1' K2' K7' V7' HB'; have V8 := Aside0.mk (Kd.R_lower ho hsz_); clear ho hsz_; obtain ⟨A8, c8, e_⟩ := Kd.R_slice V8.out; subst e_) | ((with_reducible refine gate_dst (N := 8) rfl ?_); refine Gr.alloc_seg ?hg (N := 8) ?hd (t := 33) (cs := G84 0 0 (arrZ 81) (.slice none 0 0)) ?ho Gr.zero33 ?_; (case hg => rfl); (case hd => rfl); (case ho => rfl); intro g8 hg w8 hb hB; have NE_K1_g8 := Aside0.mk (show g1 ≠ g8 by rw [hg]; exact Nat.ne_of_lt (blk_lt K1.out)); have NE_K2_g8 := Aside0.mk (show g2 ≠ g8 by rw [hg]; exact Nat.ne_of_lt (blk_lt K2.out)); have NE_K7_g8 := Aside0.mk (show g7 ≠ g8 by rw [hg]; exact Nat.ne_of_lt (blk_lt K7.out)); have GE_g8 := Aside0.mk (show w.heap.size ≤ g8 by rw [hg]; exact below_size HB.out); have K1' := Aside0.mk (blk_below K1.out hB); have K2' := Aside0.mk (blk_below K2.out hB); have K7' := Aside0.mk (blk_below K7.out hB); have V7' := Aside0.mk (Kd.R_below (Kd.R_mono (Kd.R_bound V7.out) (ok' := fun k_ => k_ ≠ g8) (fun k_ hk_ e_ => by have h1 := hk_.2.2.1; omega)) hB); have V8' := Aside0.mk (Kd.R_below (Kd.R_mono (Kd.R_bound V8.out) (ok' := fun k_ => k_ ≠ g8) (fun k_ hk_ e_ => by have h1 := hk_.2.2.1; omega)) hB); have HB' := Aside0.mk (below_step HB.out hB); have KN := Aside0.mk hb; clear hB hb hg K1 K2 K7 V7 V8 HB; have K1 := K1'; have K2 := K2'; have K7 := K7'; have V7 := V7'; have V8 := V8'; have HB := HB'; clear K1' K2' K7' V7' V8' HB') | ((with_reducible refine gate_store (t := 33) (p := 8) rfl ?_); have hi_ : (G84 a2 b2 h2 (.slice A8 lb2.length c8)).length = 84 := (G84_length _ _ _ _).trans (by first | rw [HL.out] | rw [HM.out]); refine Gr.store_all ?hg ?hn (t := 33) (te := 33) (p := 8) (v := .tmp 28) ?ho (g := g8) (n := 84) (cs := G84 0 0 (arrZ 81) (.slice none 0 0)) (seg := G84 a2 b2 h2 (.slice A8 lb2.length c8)) ?hp ?hv KN.out (by rw [G84_length, z81]) hi_ Gr.size33 (G84_one rfl) ?_; (case hg => rfl); (case hn => rfl); (case ho => rfl); (case hp => first | (go_simp; done) | rfl); (case hv => first | (go_simp; done) | rfl); intro w9 hgr hb; have K1' := Aside0.mk (Gr.blk_grown K1.out hgr NE_K1_g8.out); have K2' := Aside0.mk (Gr.blk_grown K2.out hgr NE_K2_g8.out); have K7' := Aside0.mk (Gr.blk_grown K7.out hgr NE_K7_g8.out); have V7' := Aside0.mk (Kd.R_mono (Kd.R_grown V7.out hgr (fun k_ hk_ e_ => hk_ (Option.some.inj e_))) (ok' := fun _ => True) (fun _ _ => trivial)); have V8' := Aside0.mk (Kd.R_mono (Kd.R_grown V8.out hgr (fun k_ hk_ e_ => hk_ (Option.some.inj e_))) (ok' := fun _ => True) (fun _ _ => trivial)); have HB' := Aside0.mk (Gr.below_grown HB.out hgr (below_size HB.out) GE_g8.out); have K8 := Aside0.mk hb; have I8 := Aside0.mk hi_; clear hb hgr hi_ KN K1 K2 K7 V7 V8 HB; have K1 := K1'; have K2 := K2'; have K7 := K7'; have V7 := V7'; have V8 := V8'; have HB := HB'; clear K1' K2' K7' V7' V8' HB') | ((with_reducible refine gate_dst (N := 29) rfl ?_); refine Gr.load_all ?hg (N := 29) ?hd (t := 33) (te := 33) (x := .tmp 7) ?ho (g := g7) (n := 84) (cs := G84 a b h (.slice A7 la2.length c7)) ?hp K7.out I7.out Try.underlying33 rfl Gr.size33 ?_; (case hg => rfl); (case hd => rfl); (case ho => rfl); (case hp => first | (go_simp; done) | rfl)) | ((with_reducible refine gate_dst (N := 30) rfl ?_); refine Gr.load_all ?hg (N := 30) ?hd (t := 33) (te := 33) (x := .tmp 8) ?ho (g := g8) (n := 84) (cs := G84 a2 b2 h2 (.slice A8 lb2.length c8)) ?hp K8.out I8.out Try.underlying33 rfl Gr.size33 ?_; (case hg => rfl); (case hd => rfl); (case ho => rfl); (case hp => first | (go_simp; done) | rfl)) | ((with_reducible refine gate_dst (N := 31) rfl ?_); refine goesL_ (some 31) rfl rfl Try.func7 (by kernel_rfl) rfl #[.agg (G84 a b h (.slice A7 la2.length c7)).toArray, .agg (G84 a2 b2 h2 (.slice A8 lb2.length c8)).toArray] rfl (by (try simp only [List.map_toArray, List.map_cons, List.map_nil]); first | done | (go_simp; done) | rfl) ?_; refine (HI.out A7 c7 A8 c8 _ (Kd.R_reads' V7.out).2.2 (Kd.R_reads' V7.out).2.1 (Kd.R_reads' V8.out).2.2 (Kd.R_reads' V8.out).2.1).mono ?_; rintro e w7 ⟨rfl, hB⟩; refine ⟨_, rfl, ?_⟩; have K1' := Aside0.mk (blk_below K1.out hB); have K2' := Aside0.mk (blk_below K2.out hB); have K7' := Aside0.mk (blk_below K7.out hB); have K8' := Aside0.mk (blk_below K8.out hB); have V7' := Aside0.mk (Kd.R_below V7.out hB); have V8' := Aside0.mk (Kd.R_below V8.out hB); have HB' := Aside0.mk (below_step HB.out hB); clear hB K1 K2 K7 K8 V7 V8 HB; have K1 := K1'; have K2 := K2'; have K7 := K7'; have K8 := K8'; have V7 := V7'; have V8 := V8'; have HB := HB'; clear K1' K2' K7' K8' V7' V8' HB'))
      have K1' := Aside0.mk (blk_drew K1.out)
      have K2' := Aside0.mk (blk_drew K2.out)
      have K7' := Aside0.mk (blk_drew K7.out)
      have K8' := Aside0.mk (blk_drew K8.out)
      have V7' := Aside0.mk (Kd.R_drew V7.out)
      have V8' := Aside0.mk (Kd.R_drew V8.out)
      have HB' := Aside0.mk (below_drew1 HB.out)
      clear K1 K2 K7 K8 V7 V8 HB
      have K1 := K1'
      have K2 := K2'
      have K7 := K7'
      have K8 := K8'
      have V7 := V7'
      have V8 := V8'
      have HB := HB'
      clear K1' K2' K7' K8' V7' V8' HB'
      refine start_ (n := 5) (S := fun w' => w'.heap[g7]? = some (.cells (G84 a b h (.slice A7 la2.length c7)).toArray 33 (0, 0)) ∧ w'.heap[g1]? = some (.cells (G84 a b h (.slice A la.length c)).toArray 28 (0, 0))) (ds := []) #[false, false, false, false, false] (by kernel_rfl) rfl rfl ⟨K7.out, K1.out⟩ (fun hHeld => ?_)
      generalize (World.drew _) = w40 at K1 K2 K7 K8 V7 V8 HB hHeld ⊢
      refine take_ (i := 0) (N := some 35) (v := .agg (G84 a b h (.slice A7 la2.length c7)).toArray) (a' := ?_) #[true, false, false, false, false] rfl rfl (by kernel_rfl) (fun _ _ _ h => h) (Or.inl ⟨by rfl, fun w' s => load_run (t := 33) (te := 33) (x := .tmp 7) rfl (g := g7) (off := 0) (n := 84) (by first | (go_simp; done) | rfl) s.1 (whole I7.out) I7.out Try.underlying33 rfl size33⟩) hHeld ?_ ?_
      rotate_left
      · simp only [Act.put, List.setIfInBounds_toArray, List.set_cons_zero, List.set_cons_succ, i64_w, i32_w]
        rfl
      refine take_ (i := 1) (N := some 36) (v := .agg (G84 a b h (.slice A la.length c)).toArray) (a' := ?_) #[true, true, false, false, false] rfl rfl (by kernel_rfl) (fun _ _ _ h => h) (Or.inl ⟨by rfl, fun w' s => load_run (t := 28) (te := 28) (x := .tmp 2) rfl (g := g1) (off := 0) (n := 84) (by first | (go_simp; done) | rfl) s.2 (whole I1.out) I1.out Try.underlying28 rfl size28⟩) hHeld ?_ ?_
      rotate_left
      · simp only [Act.put, List.setIfInBounds_toArray, List.set_cons_zero, List.set_cons_succ, i64_w, i32_w]
        rfl
      refine one_ (i := 2) (N := some 37) #[true, true, true, false, false] rfl rfl (by kernel_rfl) (by decide) (fun K hK => ?_)
      refine goes_ Try.func6 (by kernel_rfl) rfl #[.agg (G84 a b h (.slice A la.length c)).toArray] (by rfl) rfl rfl (by (try simp only [List.map_toArray, List.map_cons, List.map_nil]); first | done | (go_simp; done) | rfl) ?_
      refine (FA.out _ HB.out).mono ?_
      rintro e w5 ⟨v37, rfl, ho, hB⟩
      refine ⟨_, rfl, ?_⟩
      have hsz_ := below_size HB.out
      have K1' := Aside0.mk (blk_below K1.out hB)
      have K2' := Aside0.mk (blk_below K2.out hB)
      have K7' := Aside0.mk (blk_below K7.out hB)
      have K8' := Aside0.mk (blk_below K8.out hB)
      have V7' := Aside0.mk (Kd.R_below V7.out hB)
      have V8' := Aside0.mk (Kd.R_below V8.out hB)
      have HB' := Aside0.mk (below_step HB.out hB)
      clear hB K1 K2 K7 K8 V7 V8 HB
      have K1 := K1'
      have K2 := K2'
      have K7 := K7'
      have K8 := K8'
      have V7 := V7'
      have V8 := V8'
      have HB := HB'
      clear K1' K2' K7' K8' V7' V8' HB'
      have V37 := Aside0.mk (Kd.R_lower ho hsz_)
      clear ho hsz_
      obtain ⟨A37, c37, e_⟩ := Kd.R_slice V37.out
      subst e_
      clear hHeld
      refine hK.out _ _ ⟨K7.out, K1.out⟩ (fun hHeld => ?_)
      clear hK K
      refine norm_ (a' := ?_) ?_ ?_
      rotate_left
      · show Act.put _ (some 37) _ = _
        simp only [Act.put, List.setIfInBounds_toArray, List.set_cons_zero, List.set_cons_succ, i64_w, i32_w]
        rfl
      refine one_ (i := 3) (N := some 38) #[true, true, true, true, false] rfl rfl (by kernel_rfl) (by decide) (fun K hK => ?_)
      refine goes_ Try.func8 (by kernel_rfl) rfl #[.agg (G84 a b h (.slice A7 la2.length c7)).toArray, .agg (G84 a b h (.slice A37 la2.length c37)).toArray] (by rfl) rfl rfl (by (try simp only [List.map_toArray, List.map_cons, List.map_nil]); first | done | (go_simp; done) | rfl) ?_
      refine (EA.out A7 c7 A37 c37 _ (Kd.R_reads' V7.out).2.2 (Kd.R_reads' V7.out).2.1 (Kd.R_reads' V37.out).2.2 (Kd.R_reads' V37.out).2.1).mono ?_
      rintro e w5 ⟨rfl, hB⟩
      refine ⟨_, rfl, ?_⟩
      have K1' := Aside0.mk (blk_below K1.out hB)
      have K2' := Aside0.mk (blk_below K2.out hB)
      have K7' := Aside0.mk (blk_below K7.out hB)
      have K8' := Aside0.mk (blk_below K8.out hB)
      have V7' := Aside0.mk (Kd.R_below V7.out hB)
      have V8' := Aside0.mk (Kd.R_below V8.out hB)
      have HB' := Aside0.mk (below_step HB.out hB)
      clear hB K1 K2 K7 K8 V7 V8 HB
      have K1 := K1'
      have K2 := K2'
      have K7 := K7'
      have K8 := K8'
      have V7 := V7'
      have V8 := V8'
      have HB := HB'
      clear K1' K2' K7' K8' V7' V8' HB'
      clear V37
      clear hHeld
      refine hK.out _ _ ⟨K7.out, K1.out⟩ (fun hHeld => ?_)
      clear hK K
      refine norm_ (a' := ?_) ?_ ?_
      rotate_left
      · show Act.put _ (some 38) _ = _
        simp only [Act.put, List.setIfInBounds_toArray, List.set_cons_zero, List.set_cons_succ, i64_w, i32_w]
        rfl
      refine pure_ (i := 4) (N := some 39) (v := ?_) (a' := ?_) #[true, true, true, true, true] rfl rfl (by kernel_rfl) (fun _ _ _ h => h) (Or.inl ⟨by rfl, ?_⟩) ?_ ?_
      rotate_left
      · intro w'
        go_simp
        with_reducible rfl
      rotate_left
      · simp only [Act.put, List.setIfInBounds_toArray, List.set_cons_zero, List.set_cons_succ, i64_w, i32_w]
        rfl
      refine done_ (by kernel_rfl) ?_
      (try clear hHeld)
      go_wp2
      have K1' := Aside0.mk (blk_drew K1.out)
      have K2' := Aside0.mk (blk_drew K2.out)
      have K7' := Aside0.mk (blk_drew K7.out)
      have K8' := Aside0.mk (blk_drew K8.out)
      have V7' := Aside0.mk (Kd.R_drew V7.out)
      have V8' := Aside0.mk (Kd.R_drew V8.out)
      have HB' := Aside0.mk (below_drew1 HB.out)
      clear K1 K2 K7 K8 V7 V8 HB
      have K1 := K1'
      have K2 := K2'
      have K7 := K7'
      have K8 := K8'
      have V7 := V7'
      have V8 := V8'
      have HB := HB'
      clear K1' K2' K7' K8' V7' V8' HB'
      refine start_ (n := 5) (S := fun w' => w'.heap[g8]? = some (.cells (G84 a2 b2 h2 (.slice A8 lb2.length c8)).toArray 33 (0, 0)) ∧ w'.heap[g2]? = some (.cells (G84 a2 b2 h2 (.slice A2 lb.length c2)).toArray 28 (0, 0))) (ds := []) #[false, false, false, false, false] (by kernel_rfl) rfl rfl ⟨K8.out, K2.out⟩ (fun hHeld => ?_)
      generalize (World.drew _) = w40 at K1 K2 K7 K8 V7 V8 HB hHeld ⊢
      refine take_ (i := 0) (N := some 40) (v := .agg (G84 a2 b2 h2 (.slice A8 lb2.length c8)).toArray) (a' := ?_) #[true, false, false, false, false] rfl rfl (by kernel_rfl) (fun _ _ _ h => h) (Or.inl ⟨by rfl, fun w' s => load_run (t := 33) (te := 33) (x := .tmp 8) rfl (g := g8) (off := 0) (n := 84) (by first | (go_simp; done) | rfl) s.1 (whole I8.out) I8.out Try.underlying33 rfl size33⟩) hHeld ?_ ?_
      rotate_left
      · simp only [Act.put, List.setIfInBounds_toArray, List.set_cons_zero, List.set_cons_succ, i64_w, i32_w]
        rfl
      refine take_ (i := 1) (N := some 41) (v := .agg (G84 a2 b2 h2 (.slice A2 lb.length c2)).toArray) (a' := ?_) #[true, true, false, false, false] rfl rfl (by kernel_rfl) (fun _ _ _ h => h) (Or.inl ⟨by rfl, fun w' s => load_run (t := 28) (te := 28) (x := .tmp 3) rfl (g := g2) (off := 0) (n := 84) (by first | (go_simp; done) | rfl) s.2 (whole I2.out) I2.out Try.underlying28 rfl size28⟩) hHeld ?_ ?_
      rotate_left
      · simp only [Act.put, List.setIfInBounds_toArray, List.set_cons_zero, List.set_cons_succ, i64_w, i32_w]
        rfl
      refine one_ (i := 2) (N := some 42) #[true, true, true, false, false] rfl rfl (by kernel_rfl) (by decide) (fun K hK => ?_)
      refine goes_ Try.func6 (by kernel_rfl) rfl #[.agg (G84 a2 b2 h2 (.slice A2 lb.length c2)).toArray] (by rfl) rfl rfl (by (try simp only [List.map_toArray, List.map_cons, List.map_nil]); first | done | (go_simp; done) | rfl) ?_
      refine (FB.out _ HB.out).mono ?_
      rintro e w5 ⟨v42, rfl, ho, hB⟩
      refine ⟨_, rfl, ?_⟩
      have hsz_ := below_size HB.out
      have K1' := Aside0.mk (blk_below K1.out hB)
      have K2' := Aside0.mk (blk_below K2.out hB)
      have K7' := Aside0.mk (blk_below K7.out hB)
      have K8' := Aside0.mk (blk_below K8.out hB)
      have V7' := Aside0.mk (Kd.R_below V7.out hB)
      have V8' := Aside0.mk (Kd.R_below V8.out hB)
      have HB' := Aside0.mk (below_step HB.out hB)
      clear hB K1 K2 K7 K8 V7 V8 HB
      have K1 := K1'
      have K2 := K2'
      have K7 := K7'
      have K8 := K8'
      have V7 := V7'
      have V8 := V8'
      have HB := HB'
      clear K1' K2' K7' K8' V7' V8' HB'
      have V42 := Aside0.mk (Kd.R_lower ho hsz_)
      clear ho hsz_
      obtain ⟨A42, c42, e_⟩ := Kd.R_slice V42.out
      subst e_
      clear hHeld
      refine hK.out _ _ ⟨K8.out, K2.out⟩ (fun hHeld => ?_)
      clear hK K
      refine norm_ (a' := ?_) ?_ ?_
      rotate_left
      · show Act.put _ (some 42) _ = _
        simp only [Act.put, List.setIfInBounds_toArray, List.set_cons_zero, List.set_cons_succ, i64_w, i32_w]
        rfl
      refine one_ (i := 3) (N := some 43) #[true, true, true, true, false] rfl rfl (by kernel_rfl) (by decide) (fun K hK => ?_)
      refine goes_ Try.func8 (by kernel_rfl) rfl #[.agg (G84 a2 b2 h2 (.slice A8 lb2.length c8)).toArray, .agg (G84 a2 b2 h2 (.slice A42 lb2.length c42)).toArray] (by rfl) rfl rfl (by (try simp only [List.map_toArray, List.map_cons, List.map_nil]); first | done | (go_simp; done) | rfl) ?_
      refine (EB.out A8 c8 A42 c42 _ (Kd.R_reads' V8.out).2.2 (Kd.R_reads' V8.out).2.1 (Kd.R_reads' V42.out).2.2 (Kd.R_reads' V42.out).2.1).mono ?_
      rintro e w5 ⟨rfl, hB⟩
      refine ⟨_, rfl, ?_⟩
      have K1' := Aside0.mk (blk_below K1.out hB)
      have K2' := Aside0.mk (blk_below K2.out hB)
      have K7' := Aside0.mk (blk_below K7.out hB)
      have K8' := Aside0.mk (blk_below K8.out hB)
      have V7' := Aside0.mk (Kd.R_below V7.out hB)
      have V8' := Aside0.mk (Kd.R_below V8.out hB)
      have HB' := Aside0.mk (below_step HB.out hB)
      clear hB K1 K2 K7 K8 V7 V8 HB
      have K1 := K1'
      have K2 := K2'
      have K7 := K7'
      have K8 := K8'
      have V7 := V7'
      have V8 := V8'
      have HB := HB'
      clear K1' K2' K7' K8' V7' V8' HB'
      clear V42
      clear hHeld
      refine hK.out _ _ ⟨K8.out, K2.out⟩ (fun hHeld => ?_)
      clear hK K
      refine norm_ (a' := ?_) ?_ ?_
      rotate_left
      · show Act.put _ (some 43) _ = _
        simp only [Act.put, List.setIfInBounds_toArray, List.set_cons_zero, List.set_cons_succ, i64_w, i32_w]
        rfl
      refine pure_ (i := 4) (N := some 44) (v := ?_) (a' := ?_) #[true, true, true, true, true] rfl rfl (by kernel_rfl) (fun _ _ _ h => h) (Or.inl ⟨by rfl, ?_⟩) ?_ ?_
      rotate_left
      · intro w'
        go_simp
        with_reducible rfl
      rotate_left
      · simp only [Act.put, List.setIfInBounds_toArray, List.set_cons_zero, List.set_cons_succ, i64_w, i32_w]
        rfl
      refine done_ (by kernel_rfl) ?_
      (try clear hHeld)
      go_wp2
      go_ret
      exact ⟨rfl, HB.out⟩
end Gr
end Go.Proofs.Ythbgebikdleblaa.Q
