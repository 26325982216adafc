-- Trimmed by a program.
import Derived.Test.YtbdhmfjeamjfdaaXQ0
import Derived.Test.YtbdhmfjeamjfdaaXQ11
import Derived.Test.YtbdhmfjeamjfdaaXQ13
import Derived.Test.YtbdhmfjeamjfdaaXQSzA
namespace Go.Proofs.Ytbdhmfjeamjfdaa.Q
open Go.RowKit Go.Proofs.YtbdhmfjeamjfdaaW.PrintWords Go.Proofs.YtbdhmfjeamjfdaaW.PrintLast Go.Proofs.YtbdhmfjeamjfdaaW.PrintMore
attribute [local go_sem] max2_int min2_int max_two min_two max_three min_three max_four min_four
set_option linter.unusedVariables false
set_option linter.unusedSimpArgs false
def impl_SizesIn.f (k : Nat) (a0 a1 : Int) (l : List S45) : Option (List S45 × List Int × Int) :=
 (impl_ValidSquare.f k a0 a1 l).bind fun b => if b = true then (if Sz.ok l then some (sort2 (fun x : S45 => x.f2) (fun x : S45 => x.f3) (Sz.firsts l l.length), (sort2 (fun x : S45 => x.f2) (fun x : S45 => x.f3) (Sz.firsts l l.length)).map (fun s => Sz.cnt l (Sz.key s)), 0) else none) else some ([], [], 1)
theorem impl_SizesIn.mono : ∀ a0 a1 a2 k, LeO (impl_SizesIn.f k a0 a1 a2) (impl_SizesIn.f (k + 1) a0 a1 a2) := by
 intro a0 a1 a2 k
 unfold impl_SizesIn.f
 exact LeO.bind (impl_ValidSquare.mono _ _ _ _) (fun _ => LeO.refl _)
set_option maxRecDepth 100000 in
set_option maxHeartbeats 4000000 in
theorem impl_SizesIn.calls (k : Nat) (a0_0 : Int) (a0_1 : Int) (A0_2 : Option Addr) (c0_2 : Nat) (l0_2 : List (S45)) (r1 : List (S45)) (r2 : List Int) (r3 : Int) (w : World) (hr0_2 : Kd.C k45 w A0_2 l0_2.length l0_2) (hc0_2 : l0_2.length ≤ c0_2) (h : impl_SizesIn.f k a0_0 a0_1 l0_2 = some (r1, r2, r3)) :
  Calls Try.prog 7 #[.agg #[.int .i8 a0_0, .int .i8 a0_1, .slice A0_2 l0_2.length c0_2]] w fun e w' => ∃ v0_ v1_ : Value, e = .returned (.tuple #[v0_, v1_, .int .i64 r3]) ∧ Kd.R k45 45 w' w.heap.size (fun _ => True) v0_ r1 ∧ Kd.R (Kd.int .i64) 2 w' w.heap.size (fun _ => True) v1_ r2 ∧ Below w.heap.size w w' := by
 have hu32 := Try.underlying32; have hu45 := Try.underlying45; have HR0_2 := am_ hr0_2; have HC0_2 := am_ hc0_2; clear hr0_2 hc0_2; have HB := am_ (Below.refl w.heap.size w)
 unfold impl_SizesIn.f at h
 replace h := Option.bind_eq_some_iff.mp h; obtain ⟨b, hv, h⟩ := h; have A2 := am_ hv; clear hv
 by_cases c : b = true
 ·
  subst c; rw [if_pos rfl] at h
  by_cases hok : Sz.ok l0_2
  ·
   rw [if_pos hok] at h; obtain ⟨rfl, rfl, rfl⟩ : _ = r1 ∧ _ = r2 ∧ 0 = r3 := by simpa using h
   have l60 : l0_2.length ≤ 60 := hok.1; have HOK := am_ hok; clear hok h; generalize hS : sort2 (fun x : S45 => x.f2) (fun x : S45 => x.f3) (Sz.firsts l0_2 l0_2.length) = S; have HS := am_ hS; clear hS
   go_enter Try.func7, Try.ntmps7
   go_wp2_with (first | ((with_reducible refine gate_dst (N := 1) rfl ?_); refine box_event ?hg (N := 1) ?hd (cs := #[.int .i8 a0_0, .int .i8 a0_1, .slice A0_2 l0_2.length c0_2]) (t := 32) ?hr ?_; (case hd => rfl); (case hg => rfl); (case hr => first | (go_simp; done) | (go_simp; rfl)); intro gb hg wb hbox hb; have HBb := am_ (bT_ HB.out hb); have BK := am_ hbox; have hcz0 : wb.cell? ⟨gb, 0, none⟩ = some (.int .i8 a0_0) := (kC_ hbox 0).trans rfl; have hcz1 : wb.cell? ⟨gb, 1, none⟩ = some (.int .i8 a0_1) := (kC_ hbox 1).trans rfl; have hcz2 : wb.cell? ⟨gb, 2, none⟩ = some (.slice A0_2 l0_2.length c0_2) := (kC_ hbox 2).trans rfl; clear HB hb hbox hg) | ((with_reducible refine gate_callee (f := 19) rfl ?_); refine goesL_ (some 14) rfl rfl Try.func19 (by kernel_rfl) rfl #[.agg #[.int .i8 a0_0, .int .i8 a0_1, .slice A0_2 l0_2.length c0_2]] rfl (by (try simp only [List.map_toArray, List.map_cons, List.map_nil]); first | done | rfl) ?_; (with_reducible refine (impl_ValidSquare.calls k a0_0 a0_1 A0_2 c0_2 l0_2 true _ ?side1 HC0_2.out A2.out).mono ?_); (case side1 => exact cB_ HR0_2.out HBb.out); rintro e w5 ⟨rfl, hb⟩; refine ⟨_, rfl, ?_⟩; have HB5 := am_ (bT_ HBb.out hb); have BK5 := kB_ BK.out hb; have hcz20 : w5.cell? ⟨gb, 0, none⟩ = some (.int .i8 a0_0) := (kC_ BK5 0).trans rfl; have hcz21 : w5.cell? ⟨gb, 1, none⟩ = some (.int .i8 a0_1) := (kC_ BK5 1).trans rfl; have hcz22 : w5.cell? ⟨gb, 2, none⟩ = some (.slice A0_2 l0_2.length c0_2) := (kC_ BK5 2).trans rfl; have BK := am_ BK5; clear HBb hb hcz0 hcz1 hcz2 BK5) | ((with_reducible refine gate_dst (N := 16) rfl ?_); refine Sz.make_event ?hg (N := 16) ?hd (t := 48) (k := 45) (e := 2) ?ho Try.underlying48 ?_; (case hd => rfl); (case hg => rfl); (case ho => rfl); intro m wm hm hmm hb; have GEm := am_ (show w.heap.size ≤ m by rw [hm]; exact bZ_ HB5.out); have BK6 := kB_ BK.out hb; have HBm := am_ (bT_ HB5.out hb); have HM := am_ hmm; have hcz0 : wm.cell? ⟨gb, 0, none⟩ = some (.int .i8 a0_0) := (kC_ BK6 0).trans rfl; have hcz1 : wm.cell? ⟨gb, 1, none⟩ = some (.int .i8 a0_1) := (kC_ BK6 1).trans rfl; have hcz2 : wm.cell? ⟨gb, 2, none⟩ = some (.slice A0_2 l0_2.length c0_2) := (kC_ BK6 2).trans rfl; clear HB5 hb hm hmm hcz20 hcz21 hcz22; have BK7 := am_ BK6; clear BK6) | ((with_reducible refine gate_dst (N := 17) rfl ?_); refine Kd.R_lit k45 _ 45 ?hg (N := 17) ?hd (xs := ([] : List (S45))) (inner := []) (ok := fun _ => True) (okp := fun _ => True) ?hr ?hp (fun _ hk => hk) trivial (Below.refl _ _) (Nat.le_refl _) (by simp) ?_; (case hd => rfl); (case hg => rfl); (case hr => first | (go_simp; done) | (go_simp; rfl)); (case hp => exact (Reps.none _ _)); intro v17 w6 ho hb hg_ hnew_; clear hg_ hnew_; (try simp only [Int.reduceToNat] at ho); have HO17 := am_ (Kd.R_lower ho (bZ_ HBm.out)); have BK8 := kB_ BK7.out hb; have HB8 := am_ (bT_ HBm.out hb); have HM8 := am_ (Sz.is_blk (Sz.of_empty HM.out) hb); have hcz0' : w6.cell? ⟨gb, 0, none⟩ = some (.int .i8 a0_0) := (kC_ BK8 0).trans rfl; have hcz1' : w6.cell? ⟨gb, 1, none⟩ = some (.int .i8 a0_1) := (kC_ BK8 1).trans rfl; have hcz2' : w6.cell? ⟨gb, 2, none⟩ = some (.slice A0_2 l0_2.length c0_2) := (kC_ BK8 2).trans rfl; clear HBm HM hb ho hcz0 hcz1 hcz2 BK7 BK8))
   go_loopw [6, 21] (fun v6 v21 wr => ∃ (i : Nat), v21 = .int .i64 i ∧ i ≤ l0_2.length ∧ Aside0 (Kd.R k45 45 wr w.heap.size (fun _ => True) v6 (Sz.firsts l0_2 i)) ∧ Aside0 (Mp.Is Sz.encK (Value.int .i64) Sz.G 0 wr m i (Sz.cnt (l0_2.take i))) ∧ Aside0 (Below w.heap.size w wr)) (fun v6 v21 _ => l0_2.length - (intOf v21).toNat)
   case atStart => exact ⟨0, rfl, Nat.zero_le _, HO17, HM8, HB8⟩
   case round =>
    obtain ⟨i, rfl, hi, HR6, HI, HBr⟩ := hrel
    by_cases hlt : i < l0_2.length
    ·
     have p3 : (i : Int) < (l0_2.length : Int) := by omega
     have p4 : (0 : Int) ≤ (i : Int) := by omega
     obtain ⟨ad, e, hx0, hx1, hx2, hx3⟩ := at_T45 (cB_ HR0_2.out HBr.out) (i : Int) p4 p3
     cases e
     rw [Int.toNat_natCast] at hx0 hx1 hx2 hx3; have HG := am_ (Sz.ok_rd HOK.out hlt); have HF := am_ (show Sz.firsts l0_2 (i + 1) = if Sz.cnt (l0_2.take i) (Sz.key (rd_T45 l0_2 i)) = 0 then Sz.firsts l0_2 i ++ [Sz.own (rd_T45 l0_2 i)] else Sz.firsts l0_2 i from rfl); have HC := am_ (Sz.cnt_take hlt); have HL := am_ (Sz.firsts_len l0_2 i); have hle := Sz.cnt_take_le l0_2 i (Sz.key (rd_T45 l0_2 i)); generalize rd_T45 l0_2 (i : Int) = sx at *; have hwr : IntKind.i64.wrap (Sz.cnt (l0_2.take i) (Sz.key sx) + 1) = Sz.cnt (l0_2.take i) (Sz.key sx) + 1 := by rw [IntKind.wrap_i64]; omega
     generalize hcn : Sz.cnt (l0_2.take i) (Sz.key sx) = cn at *; have HCN := am_ hcn; clear hcn; have HBo := am_ (show ∀ k, u6.ownBlock = some k → k < wr.heap.size from fun k hk => ((Kd.R_bound HR6.out).1 k hk).2.2.1)
     by_cases c1 : cn = 0
     ·
      subst c1
      go_wp2_with (first | ((with_reducible refine gate_dst (N := 32) rfl ?_); refine Sz.look_event Sz.law ?hg (N := 32) ?hd (x := .tmp 30) (y := .tmp 31) ?ho (Sz.is_alloc (Sz.is_alloc HI.out (.cells #[.int .i8 sx.f0, .int .i8 sx.f1, .int .i8 sx.f2, .int .i8 sx.f3] 45)) (.cells #[.int .i8 0, .int .i8 0, .int .i8 sx.f2, .int .i8 sx.f3] 45)) (p := Sz.key sx) HG.out ?hx ?hy ?_; (case hd => rfl); (case hg => rfl); (case ho => rfl); (case hx => rfl); (case hy => rfl); rw [HCN.out]; have HI7 := am_ (Sz.is_alloc (Sz.is_alloc HI.out (.cells #[.int .i8 sx.f0, .int .i8 sx.f1, .int .i8 sx.f2, .int .i8 sx.f3] 45)) (.cells #[.int .i8 0, .int .i8 0, .int .i8 sx.f2, .int .i8 sx.f3] 45)); have HR7 := am_ (Kd.R_alloc (Kd.R_alloc HR6.out (.cells #[.int .i8 sx.f0, .int .i8 sx.f1, .int .i8 sx.f2, .int .i8 sx.f3] 45)) (.cells #[.int .i8 0, .int .i8 0, .int .i8 sx.f2, .int .i8 sx.f3] 45)); have HB7 := am_ (bA_ (bA_ HBr.out (.cells #[.int .i8 sx.f0, .int .i8 sx.f1, .int .i8 sx.f2, .int .i8 sx.f3] 45)) (.cells #[.int .i8 0, .int .i8 0, .int .i8 sx.f2, .int .i8 sx.f3] 45)); have BK7 := am_ (Sz.own_there wr (.cells #[.int .i8 sx.f0, .int .i8 sx.f1, .int .i8 sx.f2, .int .i8 sx.f3] 45) (.cells #[.int .i8 0, .int .i8 0, .int .i8 sx.f2, .int .i8 sx.f3] 45)); generalize ((wr.alloc (.cells #[.int .i8 sx.f0, .int .i8 sx.f1, .int .i8 sx.f2, .int .i8 sx.f3] 45)).alloc (.cells #[.int .i8 0, .int .i8 0, .int .i8 sx.f2, .int .i8 sx.f3] 45)) = W2 at *; have hcz0 : W2.cell? ⟨wr.heap.size + 1, 0, none⟩ = some (.int .i8 0) := (kC_ BK7.out 0).trans rfl; have hcz1 : W2.cell? ⟨wr.heap.size + 1, 1, none⟩ = some (.int .i8 0) := (kC_ BK7.out 1).trans rfl; have hcz2 : W2.cell? ⟨wr.heap.size + 1, 2, none⟩ = some (.int .i8 sx.f2) := (kC_ BK7.out 2).trans rfl; have hcz3 : W2.cell? ⟨wr.heap.size + 1, 3, none⟩ = some (.int .i8 sx.f3) := (kC_ BK7.out 3).trans rfl) | ((with_reducible refine gate_builtin (b := .append) (xs := #[.tmp 34, .tmp 36]) rfl ?_); at_builtin; refine Kd.R_append k45 (w0 := w) w.heap.size rfl (.tmp 34) (.tmp 36) 27 45 (.agg #[(.int .i8 0), (.int .i8 0), (.int .i8 0), (.int .i8 0)]) 4 rfl Try.underlying27 info45 rfl (by decide) (by omega) u6 (Sz.firsts l0_2 i) (Sz.own sx) [.int .i8 0, .int .i8 0, .int .i8 sx.f2, .int .i8 sx.f3] (fun _ => True) (fun _ => False) rfl rfl ?aP (fun _ hk => hk.elim) ?aF ?aO ?aB ?aS ?aL ?_; (case aP => exact k45_mkM _ _ _ (Sz.own sx)); (case aB => exact HB7.out); (case aF => exact (fun _ _ => trivial)); (case aO => exact HR7.out); (case aS => exact bZ_ HB7.out); (case aL => have := HL.out; omega); intro v37 w37 ho hb hg hat; have HI8 := am_ (Sz.is_grown HI7.out HR7.out hg); have BK8 := am_ (blk_grown BK7.out hg (fun e => by have := HBo.out _ e.symm; omega)); have HR8 := am_ ho; have HB8' := am_ hb; clear HI7 BK7 HR7 HB7 hcz0 hcz1 hcz2 hcz3 ho hb hg hat; have HI7 := HI8; have BK7 := BK8; have HR7 := HR8; have HB7 := HB8'; clear HI8 BK8 HR8 HB8'; have hcz0 : w37.cell? ⟨wr.heap.size + 1, 0, none⟩ = some (.int .i8 0) := (kC_ BK7.out 0).trans rfl; have hcz1 : w37.cell? ⟨wr.heap.size + 1, 1, none⟩ = some (.int .i8 0) := (kC_ BK7.out 1).trans rfl; have hcz2 : w37.cell? ⟨wr.heap.size + 1, 2, none⟩ = some (.int .i8 sx.f2) := (kC_ BK7.out 2).trans rfl; have hcz3 : w37.cell? ⟨wr.heap.size + 1, 3, none⟩ = some (.int .i8 sx.f3) := (kC_ BK7.out 3).trans rfl))
      obtain ⟨V1, st, hen, hI1, hg1, hst⟩ := Mp.Is.entry Sz.law (Sz.is_drew HI7.out) HG.out; obtain ⟨V2, hst2, hI2, hg2⟩ := hst 1; have hlo1 := Mp.Is.look Sz.law (Sz.is_drew HI7.out) HG.out; have hlo2 := Mp.Is.look Sz.law hI1 HG.out; rw [HCN.out] at hlo1 hlo2 hen; rw [Sz.enc_key] at hlo1 hlo2 hen; replace hst2 : Sem.run Try.prog (Instr.entryStore 48 (Value.map (some m)) (Value.int .i64 st) (Value.int .i64 1)) V1 = .ok () V2 := hst2; have HI9 := am_ hI2; have HB9 := am_ (Below.grown (bD_ HB7.out) hg2 (bZ_ (bD_ HB7.out)) (fun k_ e_ => by cases e_; exact GEm.out)); have HR9 := am_ (Sz.row_grown (Kd.R_drew HR7.out) (Sz.is_drew HI7.out) hg2); clear hI1 hg1 hI2 hg2 hst HI7 HB7 HR7 BK7
      go_region
      go_wp2
      go_round
      case measure => simp [intOf]; omega
      case rel =>
       refine ⟨i + 1, by simp, by omega, ?_, ?_, HB9⟩
       ·
        have hF := HF.out; rw [if_pos trivial] at hF; rw [hF]; exact HR9
       ·
        have hC := HC.out; rw [hC]; exact HI9
     ·
      have d1 : (cn == 0) = false := by simp [c1]
      have d2 : decide (cn = 0) = false := by simp [c1]
      go_wp2_with (first | ((with_reducible refine gate_dst (N := 32) rfl ?_); refine Sz.look_event Sz.law ?hg (N := 32) ?hd (x := .tmp 30) (y := .tmp 31) ?ho (Sz.is_alloc (Sz.is_alloc HI.out (.cells #[.int .i8 sx.f0, .int .i8 sx.f1, .int .i8 sx.f2, .int .i8 sx.f3] 45)) (.cells #[.int .i8 0, .int .i8 0, .int .i8 sx.f2, .int .i8 sx.f3] 45)) (p := Sz.key sx) HG.out ?hx ?hy ?_; (case hd => rfl); (case hg => rfl); (case ho => rfl); (case hx => rfl); (case hy => rfl); rw [HCN.out]; have HI7 := am_ (Sz.is_alloc (Sz.is_alloc HI.out (.cells #[.int .i8 sx.f0, .int .i8 sx.f1, .int .i8 sx.f2, .int .i8 sx.f3] 45)) (.cells #[.int .i8 0, .int .i8 0, .int .i8 sx.f2, .int .i8 sx.f3] 45)); have HR7 := am_ (Kd.R_alloc (Kd.R_alloc HR6.out (.cells #[.int .i8 sx.f0, .int .i8 sx.f1, .int .i8 sx.f2, .int .i8 sx.f3] 45)) (.cells #[.int .i8 0, .int .i8 0, .int .i8 sx.f2, .int .i8 sx.f3] 45)); have HB7 := am_ (bA_ (bA_ HBr.out (.cells #[.int .i8 sx.f0, .int .i8 sx.f1, .int .i8 sx.f2, .int .i8 sx.f3] 45)) (.cells #[.int .i8 0, .int .i8 0, .int .i8 sx.f2, .int .i8 sx.f3] 45)); have BK7 := am_ (Sz.own_there wr (.cells #[.int .i8 sx.f0, .int .i8 sx.f1, .int .i8 sx.f2, .int .i8 sx.f3] 45) (.cells #[.int .i8 0, .int .i8 0, .int .i8 sx.f2, .int .i8 sx.f3] 45)); generalize ((wr.alloc (.cells #[.int .i8 sx.f0, .int .i8 sx.f1, .int .i8 sx.f2, .int .i8 sx.f3] 45)).alloc (.cells #[.int .i8 0, .int .i8 0, .int .i8 sx.f2, .int .i8 sx.f3] 45)) = W2 at *; have hcz0 : W2.cell? ⟨wr.heap.size + 1, 0, none⟩ = some (.int .i8 0) := (kC_ BK7.out 0).trans rfl; have hcz1 : W2.cell? ⟨wr.heap.size + 1, 1, none⟩ = some (.int .i8 0) := (kC_ BK7.out 1).trans rfl; have hcz2 : W2.cell? ⟨wr.heap.size + 1, 2, none⟩ = some (.int .i8 sx.f2) := (kC_ BK7.out 2).trans rfl; have hcz3 : W2.cell? ⟨wr.heap.size + 1, 3, none⟩ = some (.int .i8 sx.f3) := (kC_ BK7.out 3).trans rfl))
      obtain ⟨V1, st, hen, hI1, hg1, hst⟩ := Mp.Is.entry Sz.law (Sz.is_drew HI7.out) HG.out; obtain ⟨V2, hst2, hI2, hg2⟩ := hst (cn + 1); have hlo1 := Mp.Is.look Sz.law (Sz.is_drew HI7.out) HG.out; have hlo2 := Mp.Is.look Sz.law hI1 HG.out; rw [HCN.out] at hlo1 hlo2 hen; rw [Sz.enc_key] at hlo1 hlo2 hen; replace hst2 : Sem.run Try.prog (Instr.entryStore 48 (Value.map (some m)) (Value.int .i64 st) (Value.int .i64 (cn + 1))) V1 = .ok () V2 := hst2; have HI9 := am_ hI2; have HB9 := am_ (Below.grown (bD_ HB7.out) hg2 (bZ_ (bD_ HB7.out)) (fun k_ e_ => by cases e_; exact GEm.out)); have HR9 := am_ (Sz.row_grown (Kd.R_drew HR7.out) (Sz.is_drew HI7.out) hg2); clear hI1 hg1 hI2 hg2 hst HI7 HB7 HR7 BK7
      go_region
      go_wp2
      go_round
      case measure => simp [intOf]; omega
      case rel =>
       refine ⟨i + 1, by simp, by omega, ?_, ?_, HB9⟩
       ·
        have hF := HF.out; rw [if_neg c1] at hF; rw [hF]; exact HR9
       ·
        have hC := HC.out; rw [hC]; exact HI9
    ·
     obtain rfl : i = l0_2.length := by omega
     have hSp : S.Perm (Sz.firsts l0_2 l0_2.length) := by rw [← HS.out]; exact sort2_perm _ _ _
     have hSl : S.length ≤ 60 := by have := Sz.firsts_len l0_2 l0_2.length; rw [hSp.length_eq]; omega
     have HSG := am_ (show ∀ s ∈ S, Sz.G (Sz.key s) ∧ s.f0 = 0 ∧ s.f1 = 0 from fun s hs => ⟨Sz.firsts_ok HOK.out _ (Nat.le_refl _) s (hSp.mem_iff.1 hs), Sz.firsts_own _ s (hSp.mem_iff.1 hs)⟩); clear hSp
     go_wp2_with (first | ((with_reducible refine gate_callee (f := 20) rfl ?_); refine goesL_ (some 46) rfl rfl Try.func20 (by kernel_rfl) rfl #[u6, .func (.func 21) #[] #[]] rfl (by (try simp only [List.map_toArray, List.map_cons, List.map_nil]); first | done | rfl) ?_; (with_reducible refine (slices_SortFunc_impl_Slab_at_impl_SizesIn_1.calls (fun k_ => k_ ≠ m) u6 (Sz.firsts l0_2 l0_2.length) S w _ HBr.out (rM_ (Sz.row_off HR6.out HI.out) (fun _ h_ => h_.2)) ?hs).mono ?_); (case hs => have := Sz.firsts_len l0_2 l0_2.length; unfold slices_SortFunc_impl_Slab_at_impl_SizesIn_1.f; rw [if_pos (by omega), HS.out]); rintro e w46 ⟨rfl, ho, hb, hk⟩; refine ⟨_, rfl, ?_⟩; have HRs := am_ (rM_ ho (fun _ _ => trivial : ∀ k_, _ → True)); have HIs := am_ (HI.out.kept (hk.2 m HI.out.lt (fun h_ => h_ rfl))); have HBs := am_ hb; obtain ⟨A6, c6, e6, hc6, -⟩ := Kd.R_reads ho; subst e6; clear ho hb hk HR6 HI HBr) | ((with_reducible refine gate_dst (N := 47) rfl ?_); refine Kd.R_lit (Kd.int .i64) _ 2 ?hg (N := 47) ?hd (xs := ([] : List Int)) (inner := []) (ok := fun _ => True) (okp := fun _ => True) ?hr ?hp (fun _ hk => hk) trivial (Below.refl _ _) (Nat.le_refl _) (by simp) ?_; (case hd => rfl); (case hg => rfl); (case hr => first | (go_simp; done) | (go_simp; rfl)); (case hp => exact (Reps.none _ _)); intro v47 w47 ho hb hg_ hnew_; clear hg_ hnew_; (try simp only [Int.reduceToNat] at ho); have HO47 := am_ (Kd.R_lower ho (bZ_ HBs.out)); have HB47 := am_ (bT_ HBs.out hb); have HR47 := am_ (Kd.R_below HRs.out hb); have HI47 := am_ (Sz.is_blk HIs.out hb); clear HBs HRs HIs hb ho))
     go_loopw [10, 50] (fun v10 v50 wr => ∃ (j : Nat), v50 = .int .i64 j ∧ j ≤ S.length ∧ Aside0 (Kd.R (Kd.int .i64) 2 wr w.heap.size (fun _ => True) v10 ((S.take j).map fun s => Sz.cnt l0_2 (Sz.key s))) ∧ Aside0 (Kd.R k45 45 wr w.heap.size (fun _ => True) (.slice A6 S.length c6) S) ∧ Aside0 (Mp.Is Sz.encK (Value.int .i64) Sz.G 0 wr m l0_2.length (Sz.cnt l0_2)) ∧ Aside0 (Below w.heap.size w wr)) (fun v10 v50 _ => S.length - (intOf v50).toNat)
     case atStart =>
      have hI := HI47.out; rw [List.take_length] at hI; exact ⟨0, rfl, Nat.zero_le _, HO47, HR47, ⟨hI⟩, HB47⟩
     case round =>
      obtain ⟨j, rfl, hj, HO, HRs, HI, HBr⟩ := hrel
      by_cases hlj : j < S.length
      ·
       have p3 : (j : Int) < (S.length : Int) := by omega
       have p4 : (0 : Int) ≤ (j : Int) := by omega
       obtain ⟨ad6, e6, hx0, hx1, hx2, hx3⟩ := at_T45 (Kd.R_reads' HRs.out).2.2 (j : Int) p4 p3
       cases e6
       rw [Int.toNat_natCast] at hx0 hx1 hx2 hx3; have hmem : rd_T45 S j ∈ S := by rw [Sz.rd_get hlj]; exact List.getElem_mem hlj
       obtain ⟨hG, e0, e1⟩ := HSG.out _ hmem; have HT := am_ (show S.take (j + 1) = S.take j ++ [rd_T45 S j] by rw [List.take_succ_eq_append_getElem hlj, Sz.rd_get hlj]); have HG := am_ hG; clear hG hmem; rw [e0] at hx0; rw [e1] at hx1; clear e0 e1; generalize rd_T45 S (j : Int) = x at *
       go_wp2_with (first | ((with_reducible refine gate_dst (N := 57) rfl ?_); refine Sz.look_event Sz.law ?hg (N := 57) ?hd (x := .tmp 55) (y := .tmp 56) ?ho (Sz.is_alloc HI.out (.cells #[.int .i8 0, .int .i8 0, .int .i8 x.f2, .int .i8 x.f3] 45)) (p := Sz.key x) HG.out ?hx ?hy ?_; (case hd => rfl); (case hg => rfl); (case ho => rfl); (case hx => rfl); (case hy => rfl); have HI7 := am_ (Sz.is_alloc HI.out (.cells #[.int .i8 0, .int .i8 0, .int .i8 x.f2, .int .i8 x.f3] 45)); have HR7 := am_ (Kd.R_alloc HRs.out (.cells #[.int .i8 0, .int .i8 0, .int .i8 x.f2, .int .i8 x.f3] 45)); have HO7 := am_ (Kd.R_alloc HO.out (.cells #[.int .i8 0, .int .i8 0, .int .i8 x.f2, .int .i8 x.f3] 45)); have HB7 := am_ (bA_ HBr.out (.cells #[.int .i8 0, .int .i8 0, .int .i8 x.f2, .int .i8 x.f3] 45)); generalize (wr.alloc (.cells #[.int .i8 0, .int .i8 0, .int .i8 x.f2, .int .i8 x.f3] 45)) = W2 at *) | ((with_reducible refine gate_builtin (b := .append) (xs := #[.tmp 54, .tmp 58]) rfl ?_); at_builtin; refine Kd.R_append (Kd.int .i64) (w0 := w) w.heap.size rfl (.tmp 54) (.tmp 58) 28 2 (.int .i64 0) 8 rfl Try.underlying28 info2 rfl (by decide) (by omega) u10 ((S.take j).map fun s => Sz.cnt l0_2 (Sz.key s)) (Sz.cnt l0_2 (Sz.key x)) [.int .i64 (Sz.cnt l0_2 (Sz.key x))] (fun _ => True) (fun _ => False) rfl rfl ?aP (fun _ hk => hk.elim) ?aF ?aO ?aB ?aS ?aL ?_; (case aP => exact rfl); (case aB => exact HB7.out); (case aF => exact (fun _ _ => trivial)); (case aO => exact HO7.out); (case aS => exact bZ_ HB7.out); (case aL => rw [List.length_map, List.length_take]; omega); intro v59 w59 ho hb hg hat; have HI8 := am_ (Sz.is_grown HI7.out HO7.out hg); have HR8 := am_ (Kd.R_over' HR7.out (Kd.R_typed HO7.out) (by decide) hg); have HO8 := am_ ho; have HB8' := am_ hb; clear ho hb hg hat))
       go_round
       case measure => simp [intOf]; omega
       case rel =>
        refine ⟨j + 1, by simp, by omega, ?_, HR8, HI8, HB8'⟩; rw [HT.out, List.map_append]; exact HO8
      ·
       obtain rfl : j = S.length := by omega
       go_wp2
       go_ret3
       have hO := HO.out; rw [List.take_length] at hO; exact ⟨_, _, rfl, HRs.out, hO, HBr.out⟩
  ·
   rw [if_neg hok] at h
   cases h
 ·
  obtain rfl : b = false := by simpa using c
  rw [if_neg (by decide)] at h; obtain ⟨rfl, rfl, rfl⟩ : [] = r1 ∧ [] = r2 ∧ 1 = r3 := by simpa using h
  clear h
  go_enter Try.func7, Try.ntmps7
  go_wp2_with (first | ((with_reducible refine gate_dst (N := 1) rfl ?_); refine box_event ?hg (N := 1) ?hd (cs := #[.int .i8 a0_0, .int .i8 a0_1, .slice A0_2 l0_2.length c0_2]) (t := 32) ?hr ?_; (case hd => rfl); (case hg => rfl); (case hr => first | (go_simp; done) | (go_simp; rfl)); intro gb hg wb hbox hb; have HBb := am_ (bT_ HB.out hb); have BK := am_ hbox; have hcz0 : wb.cell? ⟨gb, 0, none⟩ = some (.int .i8 a0_0) := (kC_ hbox 0).trans rfl; have hcz1 : wb.cell? ⟨gb, 1, none⟩ = some (.int .i8 a0_1) := (kC_ hbox 1).trans rfl; have hcz2 : wb.cell? ⟨gb, 2, none⟩ = some (.slice A0_2 l0_2.length c0_2) := (kC_ hbox 2).trans rfl; clear HB hb hbox hg) | ((with_reducible refine gate_callee (f := 19) rfl ?_); refine goesL_ (some 14) rfl rfl Try.func19 (by kernel_rfl) rfl #[.agg #[.int .i8 a0_0, .int .i8 a0_1, .slice A0_2 l0_2.length c0_2]] rfl (by (try simp only [List.map_toArray, List.map_cons, List.map_nil]); first | done | rfl) ?_; (with_reducible refine (impl_ValidSquare.calls k a0_0 a0_1 A0_2 c0_2 l0_2 false _ ?side1 HC0_2.out A2.out).mono ?_); (case side1 => exact cB_ HR0_2.out HBb.out); rintro e w5 ⟨rfl, hb⟩; refine ⟨_, rfl, ?_⟩; have HB5 := am_ (bT_ HBb.out hb); have BK5 := kB_ BK.out hb; have hcz20 : w5.cell? ⟨gb, 0, none⟩ = some (.int .i8 a0_0) := (kC_ BK5 0).trans rfl; have hcz21 : w5.cell? ⟨gb, 1, none⟩ = some (.int .i8 a0_1) := (kC_ BK5 1).trans rfl; have hcz22 : w5.cell? ⟨gb, 2, none⟩ = some (.slice A0_2 l0_2.length c0_2) := (kC_ BK5 2).trans rfl; have BK := am_ BK5; clear HBb hb hcz0 hcz1 hcz2 BK5))
  go_ret3
  exact ⟨_, _, rfl, Kd.R_nil _ _ _ _ _, Kd.R_nil _ _ _ _ _, HB5.out⟩
end Go.Proofs.Ytbdhmfjeamjfdaa.Q
