-- Trimmed by a program.
import Derived.Test.YteinapckfhpdkaaDoorXQ0
import Derived.Test.YteinapckfhpdkaaDoorXQ11
import Derived.Test.YteinapckfhpdkaaDoorXQ12
import Derived.Test.YteinapckfhpdkaaDoorXQ8
import Derived.Test.YteinapckfhpdkaaDoorXQ9
namespace Go.Proofs.YteinapckfhpdkaaDoor.Q
open Go.RowKit Go.Proofs.YteinapckfhpdkaaDoorW.PrintWords Go.Proofs.YteinapckfhpdkaaDoorW.PrintLast Go.Proofs.YteinapckfhpdkaaDoorW.PrintMore
attribute [local go_sem] max2_int min2_int max_two min_two max_three min_three max_four min_four
set_option linter.unusedVariables false
set_option linter.unusedSimpArgs false
mutual
def impl_ValidSquare.j0 : Nat → Bool → Int → Int → List (S36) → Option (Bool)
 | 0,_,_,_,_=>none
 | k + 1,x22,x227000,x227001,x227002=>if x22 = true then (some false) else (impl_ValidSquare.l0 k x227002 (x227002.length : Int) 0 x227000 x227001 x227002)
def impl_ValidSquare.l0 : Nat → List (S36) → Int → Int → Int → Int → List (S36) → Option (Bool)
 | 0,_,_,_,_,_,_=>none
 | k + 1,x24,x25,x26,x227000,x227001,x227002=>if x26 < x25 then (if 0≤x26 then (if x26 < (x24.length : Int) then ((impl_Slab_isIn.f ((rd_T36 x24 x26).f0) ((rd_T36 x24 x26).f1) ((rd_T36 x24 x26).f2) ((rd_T36 x24 x26).f3) x227000 x227001 x227002).bind fun t231=>(if t231 = true then (if x26≤(x227002.length : Int) then ((slices_ContainsFunc_impl_Slab_at_impl_Slab_meets.f k (x227002.take (x26 : Int).toNat) ((rd_T36 x24 x26).f0) ((rd_T36 x24 x26).f1) ((rd_T36 x24 x26).f2) ((rd_T36 x24 x26).f3)).bind fun t236=>(if t236 = true then (some false) else (if x26 > 0 then (if 0≤(wrap64 (x26 - 1)) then (if (wrap64 (x26 - 1)) < (x227002.length : Int) then ((impl_compareSlabs.f k ((rd_T36 x227002 (wrap64 (x26 - 1))).f0) ((rd_T36 x227002 (wrap64 (x26 - 1))).f1) ((rd_T36 x227002 (wrap64 (x26 - 1))).f2) ((rd_T36 x227002 (wrap64 (x26 - 1))).f3) ((rd_T36 x24 x26).f0) ((rd_T36 x24 x26).f1) ((rd_T36 x24 x26).f2) ((rd_T36 x24 x26).f3)).bind fun t238=>(if t238 > 0 then (some false) else (impl_ValidSquare.l0 k x24 x25 (wrap64 (x26 + 1)) x227000 x227001 x227002))) else (none)) else (none)) else (impl_ValidSquare.l0 k x24 x25 (wrap64 (x26 + 1)) x227000 x227001 x227002)))) else (none)) else (some false))) else (none)) else (none)) else (some true)
end
def impl_ValidSquare.f (k : Nat) (a0_0 : Int) (a0_1 : Int) (l0_2 : List (S36)) : Option (Bool) := (impl_isEdge.f (wrap64 (a0_0))).bind fun t227 => (if t227 = true then ((impl_isEdge.f (wrap64 (a0_1))).bind fun t228 => (if t228 = true then (impl_ValidSquare.j0 k (decide ((l0_2.length : Int) > 60)) a0_0 a0_1 l0_2) else (impl_ValidSquare.j0 k true a0_0 a0_1 l0_2))) else (impl_ValidSquare.j0 k true a0_0 a0_1 l0_2))
theorem impl_ValidSquare.mono_l : ∀ k, (∀ y0 y1 y2 y3, LeO (impl_ValidSquare.j0 k y0 y1 y2 y3) (impl_ValidSquare.j0 (k + 1) y0 y1 y2 y3)) ∧ (∀ y0 y1 y2 y3 y4 y5, LeO (impl_ValidSquare.l0 k y0 y1 y2 y3 y4 y5) (impl_ValidSquare.l0 (k + 1) y0 y1 y2 y3 y4 y5))
 | 0=>⟨fun _ _ _ _ r h=>by simp [impl_ValidSquare.j0] at h,fun _ _ _ _ _ _ r h=>by simp [impl_ValidSquare.l0] at h⟩
 | k + 1=>by
  obtain ⟨ih0,ih1⟩:=impl_ValidSquare.mono_l k;refine ⟨?_,?_⟩
  ·
   intro y0 y1 y2 y3
   unfold impl_ValidSquare.j0
   repeat' first
   | (with_reducible exact ih0 _ _ _ _)
   | (with_reducible exact ih1 _ _ _ _ _ _)
   | (with_reducible exact impl_compareSlabs.mono _ _ _ _ _ _ _ _ _)
   | (with_reducible exact slices_ContainsFunc_impl_Slab_at_impl_Slab_meets.mono _ _ _ _ _ _)
   | (with_reducible exact LeO.refl _)
   | (with_reducible exact LeO.none _)
   | (with_reducible refine LeO.ite ?_ ?_)
   | (with_reducible refine LeO.bind ?_ (fun _=>?_))
   | exact ih0 _ _ _ _
   | exact ih1 _ _ _ _ _ _
   | exact impl_compareSlabs.mono _ _ _ _ _ _ _ _ _
   | exact slices_ContainsFunc_impl_Slab_at_impl_Slab_meets.mono _ _ _ _ _ _
   | exact LeO.none _
   | refine LeO.ite ?_ ?_
   | refine LeO.bind ?_ (fun _=>?_)
  ·
   intro y0 y1 y2 y3 y4 y5
   unfold impl_ValidSquare.l0
   repeat' first
   | (with_reducible exact ih0 _ _ _ _)
   | (with_reducible exact ih1 _ _ _ _ _ _)
   | (with_reducible exact impl_compareSlabs.mono _ _ _ _ _ _ _ _ _)
   | (with_reducible exact slices_ContainsFunc_impl_Slab_at_impl_Slab_meets.mono _ _ _ _ _ _)
   | (with_reducible exact LeO.refl _)
   | (with_reducible exact LeO.none _)
   | (with_reducible refine LeO.ite ?_ ?_)
   | (with_reducible refine LeO.bind ?_ (fun _=>?_))
   | exact ih0 _ _ _ _
   | exact ih1 _ _ _ _ _ _
   | exact impl_compareSlabs.mono _ _ _ _ _ _ _ _ _
   | exact slices_ContainsFunc_impl_Slab_at_impl_Slab_meets.mono _ _ _ _ _ _
   | exact LeO.none _
   | refine LeO.ite ?_ ?_
   | refine LeO.bind ?_ (fun _=>?_)
theorem impl_ValidSquare.mono : ∀ a0 a1 a2 k, LeO (impl_ValidSquare.f k a0 a1 a2) (impl_ValidSquare.f (k + 1) a0 a1 a2) := by
 intro a0 a1 a2 k;obtain ⟨ih0,ih1⟩:=impl_ValidSquare.mono_l k
 unfold impl_ValidSquare.f
 repeat' first
   | (with_reducible exact ih0 _ _ _ _)
   | (with_reducible exact ih1 _ _ _ _ _ _)
   | (with_reducible exact impl_compareSlabs.mono _ _ _ _ _ _ _ _ _)
   | (with_reducible exact slices_ContainsFunc_impl_Slab_at_impl_Slab_meets.mono _ _ _ _ _ _)
   | (with_reducible exact LeO.refl _)
   | (with_reducible exact LeO.none _)
   | (with_reducible refine LeO.ite ?_ ?_)
   | (with_reducible refine LeO.bind ?_ (fun _=>?_))
   | exact ih0 _ _ _ _
   | exact ih1 _ _ _ _ _ _
   | exact impl_compareSlabs.mono _ _ _ _ _ _ _ _ _
   | exact slices_ContainsFunc_impl_Slab_at_impl_Slab_meets.mono _ _ _ _ _ _
   | exact LeO.none _
   | refine LeO.ite ?_ ?_
   | refine LeO.bind ?_ (fun _=>?_)
def impl_ValidSquare.T6 : Bool × List (List Nat × List Nat) := (true, [([], []), ([], []), ([0, 1], [0, 1]), ([2], [2]), ([3, 2], [3]), ([4], [4]), ([5, 4], [4, 5]), ([4], [4]), ([6, 7, 4], [4, 6, 7]), ([4], [4]), ([9, 4], [4, 9]), ([8, 10, 4, 4], [4, 8, 10]), ([4, 11], [4, 11]), ([12, 11], [12]), ([13], [13]), ([14, 13], [13, 14]), ([15, 13, 13], [13, 15]), ([16], [16]), ([17, 16], [16, 17]), ([16], [16]), ([19, 16], [16, 19]), ([18, 20, 16], [16, 18, 20]), ([21, 16], [16, 21]), ([16], [16]), ([22, 23, 16, 16], [16, 22, 23]), ([24, 16], [16, 24]), ([16, 25, 13], [13, 16, 25]), ([13, 26], [13, 26])])
def impl_ValidSquare.B6 : List Nat := [0, 0, 3, 7, 15, 31, 63, 31, 255, 31, 543, 2047, 4095, 8191, 16383, 32767, 65535, 131071, 262143, 131071, 655359, 2097151, 4194303, 131071, 16777215, 33554431, 67108863, 134217727]
theorem impl_ValidSquare.tab6 : rtab .any (opsOf Tryd.f28 6) = impl_ValidSquare.T6 := by kernel_rfl
theorem impl_ValidSquare.bits6 : waitsOk impl_ValidSquare.T6.2 impl_ValidSquare.B6 = true := by kernel_rfl
set_option maxHeartbeats 8000000 in
set_option maxRecDepth 100000 in
theorem impl_ValidSquare.calls (k : Nat) (a0_0 : Int) (a0_1 : Int) (A0_2 : Option Addr) (c0_2 : Nat) (l0_2 : List (S36)) (r : Bool) (w : World) (hr0_2 : Kd.C k36 w A0_2 l0_2.length l0_2) (hc0_2 : l0_2.length ≤ c0_2) (h : impl_ValidSquare.f k a0_0 a0_1 l0_2 = some r) :
  Calls Tryd.prog 28 #[.agg #[.int .i8 a0_0,.int .i8 a0_1,.slice A0_2 l0_2.length c0_2]] w fun e w'=>e = .returned (.bool r) ∧ Below w.heap.size w w':=by
 have hu25:=Tryd.underlying25;have hu36:=Tryd.underlying36;have HR0_2:=am_ hr0_2;have HC0_2:=am_ hc0_2;clear hr0_2 hc0_2;have HB:=am_ (Below.refl w.heap.size w);have H : ((impl_isEdge.f (wrap64 (a0_0))).bind fun t227=>(if t227 = true then ((impl_isEdge.f (wrap64 (a0_1))).bind fun t228=>(if t228 = true then (impl_ValidSquare.j0 k (decide ((l0_2.length : Int) > 60)) a0_0 a0_1 l0_2) else (impl_ValidSquare.j0 k true a0_0 a0_1 l0_2))) else (impl_ValidSquare.j0 k true a0_0 a0_1 l0_2))) = some r:=h;clear h;have HC2:=am_ H;clear H
 go_enter Tryd.func28,Tryd.ntmps28
 go_upto_region 1 with (first|((with_reducible refine gate_dst (N:=1) rfl ?_);(try (refine gate_guard (by rfl) ?_;dsimp only));refine box_event ?hg (N:=1) ?hd (cs:=#[.int .i8 a0_0,.int .i8 a0_1,.slice A0_2 l0_2.length c0_2]) (t:=25) ?hr ?_;(case hd=>rfl);(case hg=>rfl);(case hr=>first|(go_simp;done)|(go_simp;rfl));intro gb226 hg w3 hbox hb;have n0_:=am_ (bT_ (by repeat (first|(with_reducible first|exact HB.out|apply bA_|apply bN_|apply bD_)|exact HB.out)) hb);have n1_:=am_ (hbox);have n2_:=am_ ((by rw [hg];exact (bZ_ (by repeat (first|(with_reducible first|exact HB.out|apply bA_|apply bN_|apply bD_)|exact HB.out))) : w.heap.size≤gb226));have n3_:=n2_;clear HB;have HB:=n0_;have BK226:=n1_;have GW226:=n2_;have GE226:=n3_;clear n0_ n1_ n2_ n3_;clear hb hbox hg))
 (try simp only [Act.put,z1_,z2_,z3_])
 go_cut [22] (fun v22 wc=>∃ (kq : Nat) (x22_1 : Bool),v22 = .bool x22_1 ∧ Aside0 (impl_ValidSquare.j0 kq x22_1 a0_0 a0_1 l0_2 = some r) ∧ Aside0 (kq≤k) ∧ Aside0 (wc.heap[gb226]? = some (.cells #[.int .i8 a0_0,.int .i8 a0_1,(.slice A0_2 l0_2.length c0_2)] 25 (0,0))) ∧ Aside0 (Below w.heap.size w wc))
 case first =>
  have H:=HC2.out;clear HC2;replace H:=Option.bind_eq_some_iff.mp H;obtain ⟨t227,A40,H⟩:=H;replace H : (if t227 = true then ((impl_isEdge.f (wrap64 (a0_1))).bind fun t228=>(if t228 = true then (impl_ValidSquare.j0 k (decide ((l0_2.length : Int) > 60)) a0_0 a0_1 l0_2) else (impl_ValidSquare.j0 k true a0_0 a0_1 l0_2))) else (impl_ValidSquare.j0 k true a0_0 a0_1 l0_2)) = some r:=H;have A4:=am_ A40;clear A40
  by_cases c5 : t227 = true
  ·
   subst c5;have H1 : ((impl_isEdge.f (wrap64 (a0_1))).bind fun t228=>(if t228 = true then (impl_ValidSquare.j0 k (decide ((l0_2.length : Int) > 60)) a0_0 a0_1 l0_2) else (impl_ValidSquare.j0 k true a0_0 a0_1 l0_2))) = some r:=by rw [if_pos rfl] at H;exact H
   clear H;have H:=H1;clear H1;replace H:=Option.bind_eq_some_iff.mp H;obtain ⟨t228,A60,H⟩:=H;replace H : (if t228 = true then (impl_ValidSquare.j0 k (decide ((l0_2.length : Int) > 60)) a0_0 a0_1 l0_2) else (impl_ValidSquare.j0 k true a0_0 a0_1 l0_2)) = some r:=H;have A6:=am_ A60;clear A60
   by_cases c7 : t228 = true
   ·
    subst c7;have H1 : (impl_ValidSquare.j0 k (decide ((l0_2.length : Int) > 60)) a0_0 a0_1 l0_2) = some r:=by rw [if_pos rfl] at H;exact H
    clear H;have H:=H1;clear H1;have H':=am_ H;clear H;have hcz8_0 : w3.cell? ⟨gb226,0,none⟩ = some (.int .i8 a0_0):=(kC_ BK226.out 0).trans rfl;have hcz8_1 : w3.cell? ⟨gb226,1,none⟩ = some (.int .i8 a0_1):=(kC_ BK226.out 1).trans rfl;have hcz8_2 : w3.cell? ⟨gb226,2,none⟩ = some (.slice A0_2 l0_2.length c0_2):=(kC_ BK226.out 2).trans rfl;have hfz8_0:=kF_ BK226.out 0;have hfz8_1:=kF_ BK226.out 1;have hfz8_2:=kF_ BK226.out 2
    go_wp2_with (first|((with_reducible refine gate_callee (f:=26) rfl ?_);refine goesL_ (some 8) rfl rfl Tryd.func26 (by kernel_rfl) rfl #[.int .i64 (wrap64 (a0_0))] rfl (by (try simp only [List.map_toArray,List.map_cons,List.map_nil]);first|done|rfl|(simp only [List.length_drop,List.length_take];rfl)) ?_;(with_reducible refine (impl_isEdge.calls (wrap64 (a0_0)) true _ A4.out).mono ?_);rintro e w' ⟨rfl,⟨nd,rfl⟩⟩;refine ⟨_,rfl,?_⟩)|(go_at_call 26;(with_reducible refine (impl_isEdge.calls (wrap64 (a0_1)) true _ A6.out).mono ?_);rintro e w' ⟨rfl,⟨nd,rfl⟩⟩))
    go_meet
    case rel=>exact ⟨_,(decide ((l0_2.length : Int) > 60)),(by first|rfl|(simp;done)|(simp [*];done)),H',⟨by first|omega|exact Nat.le_refl _⟩,⟨by (with_reducible repeat (first|apply kN_|apply kD_|apply kA_));exact BK226.out⟩,⟨by repeat (first|(with_reducible first|exact HB.out|apply bA_|apply bN_|apply bD_|refine bS_ ?_ GE226.out)|exact HB.out)⟩⟩
   ·
    replace c7:=Bool.eq_false_iff.mpr c7;subst c7;have H1 : (impl_ValidSquare.j0 k true a0_0 a0_1 l0_2) = some r:=by rw [if_neg (show ¬ (false = true) by decide)] at H;exact H
    clear H;have H:=H1;clear H1;have H':=am_ H;clear H;have hcz9_0 : w3.cell? ⟨gb226,0,none⟩ = some (.int .i8 a0_0):=(kC_ BK226.out 0).trans rfl;have hcz9_1 : w3.cell? ⟨gb226,1,none⟩ = some (.int .i8 a0_1):=(kC_ BK226.out 1).trans rfl;have hcz9_2 : w3.cell? ⟨gb226,2,none⟩ = some (.slice A0_2 l0_2.length c0_2):=(kC_ BK226.out 2).trans rfl;have hfz9_0:=kF_ BK226.out 0;have hfz9_1:=kF_ BK226.out 1;have hfz9_2:=kF_ BK226.out 2
    go_wp2_with (first|((with_reducible refine gate_callee (f:=26) rfl ?_);refine goesL_ (some 8) rfl rfl Tryd.func26 (by kernel_rfl) rfl #[.int .i64 (wrap64 (a0_0))] rfl (by (try simp only [List.map_toArray,List.map_cons,List.map_nil]);first|done|rfl|(simp only [List.length_drop,List.length_take];rfl)) ?_;(with_reducible refine (impl_isEdge.calls (wrap64 (a0_0)) true _ A4.out).mono ?_);rintro e w' ⟨rfl,⟨nd,rfl⟩⟩;refine ⟨_,rfl,?_⟩)|(go_at_call 26;(with_reducible refine (impl_isEdge.calls (wrap64 (a0_1)) false _ A6.out).mono ?_);rintro e w' ⟨rfl,⟨nd,rfl⟩⟩))
    go_meet
    case rel=>exact ⟨_,(true),(by first|rfl|(simp;done)|(simp [*];done)),H',⟨by first|omega|exact Nat.le_refl _⟩,⟨by (with_reducible repeat (first|apply kN_|apply kD_|apply kA_));exact BK226.out⟩,⟨by repeat (first|(with_reducible first|exact HB.out|apply bA_|apply bN_|apply bD_|refine bS_ ?_ GE226.out)|exact HB.out)⟩⟩
  ·
   replace c5:=Bool.eq_false_iff.mpr c5;subst c5;have H1 : (impl_ValidSquare.j0 k true a0_0 a0_1 l0_2) = some r:=by rw [if_neg (show ¬ (false = true) by decide)] at H;exact H
   clear H;have H:=H1;clear H1;have H':=am_ H;clear H;have hcz10_0 : w3.cell? ⟨gb226,0,none⟩ = some (.int .i8 a0_0):=(kC_ BK226.out 0).trans rfl;have hcz10_1 : w3.cell? ⟨gb226,1,none⟩ = some (.int .i8 a0_1):=(kC_ BK226.out 1).trans rfl;have hcz10_2 : w3.cell? ⟨gb226,2,none⟩ = some (.slice A0_2 l0_2.length c0_2):=(kC_ BK226.out 2).trans rfl;have hfz10_0:=kF_ BK226.out 0;have hfz10_1:=kF_ BK226.out 1;have hfz10_2:=kF_ BK226.out 2
   go_wp2_with (first|((with_reducible refine gate_callee (f:=26) rfl ?_);refine goesL_ (some 8) rfl rfl Tryd.func26 (by kernel_rfl) rfl #[.int .i64 (wrap64 (a0_0))] rfl (by (try simp only [List.map_toArray,List.map_cons,List.map_nil]);first|done|rfl|(simp only [List.length_drop,List.length_take];rfl)) ?_;(with_reducible refine (impl_isEdge.calls (wrap64 (a0_0)) false _ A4.out).mono ?_);rintro e w' ⟨rfl,⟨nd,rfl⟩⟩;refine ⟨_,rfl,?_⟩))
   go_meet
   case rel=>exact ⟨_,(true),(by first|rfl|(simp;done)|(simp [*];done)),H',⟨by first|omega|exact Nat.le_refl _⟩,⟨by (with_reducible repeat (first|apply kN_|apply kD_|apply kA_));exact BK226.out⟩,⟨by repeat (first|(with_reducible first|exact HB.out|apply bA_|apply bN_|apply bD_|refine bS_ ?_ GE226.out)|exact HB.out)⟩⟩
 case rest =>
  clear HC2;(try clear c2);(try clear p2);(try clear c5);(try clear p6);(try clear c7);(try clear hcz10_0);(try clear hcz10_1);(try clear hcz10_2);(try clear hcz8_0);(try clear hcz8_1);(try clear hcz8_2);(try clear hcz9_0);(try clear hcz9_1);(try clear hcz9_2);(try clear hfz10_0);(try clear hfz10_1);(try clear hfz10_2);(try clear hfz8_0);(try clear hfz8_1);(try clear hfz8_2);(try clear hfz9_0);(try clear hfz9_1);(try clear hfz9_2);obtain ⟨kq,x22_1,rfl,HA,HJ1,BK226,HB⟩:=hcut
  cases kq with
  | zero=>exact absurd HA.out (by simp [impl_ValidSquare.j0])
  | succ kj1 =>
   have H:=HA.out;clear HA;simp only [impl_ValidSquare.j0] at H
   by_cases c11 : x22_1 = true
   ·
    subst c11;have H1 : (some false) = some r:=by rw [if_pos rfl] at H;exact H
    clear H;have H:=H1;clear H1;obtain rfl:=Option.some.inj H
    go_wp2
    go_ret
    exact ⟨by first|rfl|(simp [errW_none,errW_some] <;> rfl)|(simp [*,errW_none,errW_some] <;> rfl),by repeat (first|(with_reducible first|exact HB.out|apply bA_|apply bN_|apply bD_|refine bS_ ?_ GE226.out)|exact HB.out)⟩
   ·
    replace c11:=Bool.eq_false_iff.mpr c11;subst c11;have H1 : (impl_ValidSquare.l0 kj1 l0_2 (l0_2.length : Int) 0 a0_0 a0_1 l0_2) = some r:=by rw [if_neg (show ¬ (false = true) by decide)] at H;exact H
    clear H;have H:=H1;clear H1;have H':=am_ H;clear H;have hcz12_0 : wc.cell? ⟨gb226,0,none⟩ = some (.int .i8 a0_0):=(kC_ BK226.out 0).trans rfl;have hcz12_1 : wc.cell? ⟨gb226,1,none⟩ = some (.int .i8 a0_1):=(kC_ BK226.out 1).trans rfl;have hcz12_2 : wc.cell? ⟨gb226,2,none⟩ = some (.slice A0_2 l0_2.length c0_2):=(kC_ BK226.out 2).trans rfl;have hfz12_0:=kF_ BK226.out 0;have hfz12_1:=kF_ BK226.out 1;have hfz12_2:=kF_ BK226.out 2
    go_wp2
    go_loopg [26] kj1 (fun kq v26 w'=>∃ (x26_2 : Int),v26 = .int .i64 x26_2 ∧ Aside0 (impl_ValidSquare.l0 kq l0_2 (l0_2.length : Int) x26_2 a0_0 a0_1 l0_2 = some r) ∧ Aside0 (kq≤kj1) ∧ Aside0 (w'.heap[gb226]? = some (.cells #[.int .i8 a0_0,.int .i8 a0_1,(.slice A0_2 l0_2.length c0_2)] 25 (0,0))) ∧ Aside0 (Below w.heap.size w w'))
    case atStart=>exact ⟨(0),(by first|rfl|(simp;done)|(simp [*];done)),H',⟨Nat.le_refl _⟩,⟨by (with_reducible repeat (first|apply kN_|apply kD_|apply kA_));exact BK226.out⟩,⟨by repeat (first|(with_reducible first|exact HB.out|apply bA_|apply bN_|apply bD_|refine bS_ ?_ GE226.out)|exact HB.out)⟩⟩
    case round =>
     clear H';(try clear c1);(try clear c2);(try clear p2);(try clear c5);(try clear p6);(try clear c7);(try clear c11);(try clear hcz10_0);(try clear hcz10_1);(try clear hcz10_2);(try clear hcz12_0);(try clear hcz12_1);(try clear hcz12_2);(try clear hcz8_0);(try clear hcz8_1);(try clear hcz8_2);(try clear hcz9_0);(try clear hcz9_1);(try clear hcz9_2);(try clear hfz10_0);(try clear hfz10_1);(try clear hfz10_2);(try clear hfz12_0);(try clear hfz12_1);(try clear hfz12_2);(try clear hfz8_0);(try clear hfz8_1);(try clear hfz8_2);(try clear hfz9_0);(try clear hfz9_1);(try clear hfz9_2);(try clear p2);(try clear p6);obtain ⟨x26_2,rfl,HA,HK2,BK226,HB⟩:=hrel
     cases gk with
     | zero=>exact absurd HA.out (by simp [impl_ValidSquare.l0])
     | succ k2 =>
      have H:=HA.out;clear HA;simp only [impl_ValidSquare.l0] at H
      by_cases c13 : x26_2 < (l0_2.length : Int)
      ·
       rw [if_pos c13] at H;have c13b0 : decide (x26_2 < (l0_2.length : Int)) = true:=decide_eq_true c13;clear c13
       by_cases c14 : 0≤x26_2
       ·
        rw [if_pos c14] at H;have c14b0 : decide (0≤x26_2) = true:=decide_eq_true c14;clear c14
        by_cases c15 : x26_2 < (l0_2.length : Int)
        ·
         rw [if_pos c15] at H;have c15b0 : decide (x26_2 < (l0_2.length : Int)) = true:=decide_eq_true c15;clear c15;replace H:=Option.bind_eq_some_iff.mp H;obtain ⟨t231,A160,H⟩:=H;replace H : (if t231 = true then (if x26_2≤(l0_2.length : Int) then ((slices_ContainsFunc_impl_Slab_at_impl_Slab_meets.f k2 (l0_2.take (x26_2 : Int).toNat) ((rd_T36 l0_2 x26_2).f0) ((rd_T36 l0_2 x26_2).f1) ((rd_T36 l0_2 x26_2).f2) ((rd_T36 l0_2 x26_2).f3)).bind fun t236=>(if t236 = true then (some false) else (if x26_2 > 0 then (if 0≤(wrap64 (x26_2 - 1)) then (if (wrap64 (x26_2 - 1)) < (l0_2.length : Int) then ((impl_compareSlabs.f k2 ((rd_T36 l0_2 (wrap64 (x26_2 - 1))).f0) ((rd_T36 l0_2 (wrap64 (x26_2 - 1))).f1) ((rd_T36 l0_2 (wrap64 (x26_2 - 1))).f2) ((rd_T36 l0_2 (wrap64 (x26_2 - 1))).f3) ((rd_T36 l0_2 x26_2).f0) ((rd_T36 l0_2 x26_2).f1) ((rd_T36 l0_2 x26_2).f2) ((rd_T36 l0_2 x26_2).f3)).bind fun t238=>(if t238 > 0 then (some false) else (impl_ValidSquare.l0 k2 l0_2 (l0_2.length : Int) (wrap64 (x26_2 + 1)) a0_0 a0_1 l0_2))) else (none)) else (none)) else (impl_ValidSquare.l0 k2 l0_2 (l0_2.length : Int) (wrap64 (x26_2 + 1)) a0_0 a0_1 l0_2)))) else (none)) else (some false)) = some r:=H;have A16:=am_ A160;clear A160
         by_cases c17 : t231 = true
         ·
          subst c17;have H1 : (if x26_2≤(l0_2.length : Int) then ((slices_ContainsFunc_impl_Slab_at_impl_Slab_meets.f k2 (l0_2.take (x26_2 : Int).toNat) ((rd_T36 l0_2 x26_2).f0) ((rd_T36 l0_2 x26_2).f1) ((rd_T36 l0_2 x26_2).f2) ((rd_T36 l0_2 x26_2).f3)).bind fun t236=>(if t236 = true then (some false) else (if x26_2 > 0 then (if 0≤(wrap64 (x26_2 - 1)) then (if (wrap64 (x26_2 - 1)) < (l0_2.length : Int) then ((impl_compareSlabs.f k2 ((rd_T36 l0_2 (wrap64 (x26_2 - 1))).f0) ((rd_T36 l0_2 (wrap64 (x26_2 - 1))).f1) ((rd_T36 l0_2 (wrap64 (x26_2 - 1))).f2) ((rd_T36 l0_2 (wrap64 (x26_2 - 1))).f3) ((rd_T36 l0_2 x26_2).f0) ((rd_T36 l0_2 x26_2).f1) ((rd_T36 l0_2 x26_2).f2) ((rd_T36 l0_2 x26_2).f3)).bind fun t238=>(if t238 > 0 then (some false) else (impl_ValidSquare.l0 k2 l0_2 (l0_2.length : Int) (wrap64 (x26_2 + 1)) a0_0 a0_1 l0_2))) else (none)) else (none)) else (impl_ValidSquare.l0 k2 l0_2 (l0_2.length : Int) (wrap64 (x26_2 + 1)) a0_0 a0_1 l0_2)))) else (none)) = some r:=by rw [if_pos rfl] at H;exact H
          clear H;have H:=H1;clear H1;have c18b0:=eq_true (od_ (by first|(with_reducible assumption)|assumption) : 0≤x26_2)
          by_cases c19 : x26_2≤(l0_2.length : Int)
          ·
           rw [if_pos c19] at H;have c19b0:=eq_true c19;have c19b1 : decide (x26_2≤(l0_2.length : Int)) = true:=decide_eq_true c19;clear c19;obtain ⟨y232,hy232⟩ : ∃ y_ : List (S36),y_ = (l0_2.take (x26_2 : Int).toNat):=⟨_,rfl⟩
           replace H : ((slices_ContainsFunc_impl_Slab_at_impl_Slab_meets.f k2 y232 ((rd_T36 l0_2 x26_2).f0) ((rd_T36 l0_2 x26_2).f1) ((rd_T36 l0_2 x26_2).f2) ((rd_T36 l0_2 x26_2).f3)).bind fun t236=>(if t236 = true then (some false) else (if x26_2 > 0 then (if 0≤(wrap64 (x26_2 - 1)) then (if (wrap64 (x26_2 - 1)) < (l0_2.length : Int) then ((impl_compareSlabs.f k2 ((rd_T36 l0_2 (wrap64 (x26_2 - 1))).f0) ((rd_T36 l0_2 (wrap64 (x26_2 - 1))).f1) ((rd_T36 l0_2 (wrap64 (x26_2 - 1))).f2) ((rd_T36 l0_2 (wrap64 (x26_2 - 1))).f3) ((rd_T36 l0_2 x26_2).f0) ((rd_T36 l0_2 x26_2).f1) ((rd_T36 l0_2 x26_2).f2) ((rd_T36 l0_2 x26_2).f3)).bind fun t238=>(if t238 > 0 then (some false) else (impl_ValidSquare.l0 k2 l0_2 (l0_2.length : Int) (wrap64 (x26_2 + 1)) a0_0 a0_1 l0_2))) else (none)) else (none)) else (impl_ValidSquare.l0 k2 l0_2 (l0_2.length : Int) (wrap64 (x26_2 + 1)) a0_0 a0_1 l0_2)))) = some r:=by first|(rw [hy232];with_reducible exact H)|(have H2_:=(Option.bind_some _ _).symm.trans H;rw [hy232];with_reducible exact H2_)|(have H2_:=(Option.bind_some _ _).symm.trans H;with_reducible exact H2_)|with_reducible exact H|(rw [hy232];exact H)|exact H
           have Ny232:=am_ hy232;clear hy232;replace H:=Option.bind_eq_some_iff.mp H;obtain ⟨t236,A200,H⟩:=H;replace H : (if t236 = true then (some false) else (if x26_2 > 0 then (if 0≤(wrap64 (x26_2 - 1)) then (if (wrap64 (x26_2 - 1)) < (l0_2.length : Int) then ((impl_compareSlabs.f k2 ((rd_T36 l0_2 (wrap64 (x26_2 - 1))).f0) ((rd_T36 l0_2 (wrap64 (x26_2 - 1))).f1) ((rd_T36 l0_2 (wrap64 (x26_2 - 1))).f2) ((rd_T36 l0_2 (wrap64 (x26_2 - 1))).f3) ((rd_T36 l0_2 x26_2).f0) ((rd_T36 l0_2 x26_2).f1) ((rd_T36 l0_2 x26_2).f2) ((rd_T36 l0_2 x26_2).f3)).bind fun t238=>(if t238 > 0 then (some false) else (impl_ValidSquare.l0 k2 l0_2 (l0_2.length : Int) (wrap64 (x26_2 + 1)) a0_0 a0_1 l0_2))) else (none)) else (none)) else (impl_ValidSquare.l0 k2 l0_2 (l0_2.length : Int) (wrap64 (x26_2 + 1)) a0_0 a0_1 l0_2))) = some r:=H;have A20:=am_ A200;clear A200
           by_cases c21 : t236 = true
           ·
            subst c21;have H1 : (some false) = some r:=by rw [if_pos rfl] at H;exact H
            clear H;have H:=H1;clear H1;obtain rfl:=Option.some.inj H;have p229 : 0≤(x26_2 : Int):=od_ (by first|(with_reducible assumption)|assumption);have q229 : x26_2 < (l0_2.length : Int):=od_ (by first|(with_reducible assumption)|assumption);obtain ⟨ad229,e229,hx229_0,hx229_1,hx229_2,hx229_3⟩:=at_T36 HR0_2.out x26_2 p229 q229
            cases e229
            replace hx229_0:=(HB.out.cell (bl_ w _ hx229_0)).trans hx229_0;replace hx229_1:=(HB.out.cell (bl_ w _ hx229_1)).trans hx229_1;replace hx229_2:=(HB.out.cell (bl_ w _ hx229_2)).trans hx229_2;replace hx229_3:=(HB.out.cell (bl_ w _ hx229_3)).trans hx229_3;replace p229:=eq_true p229;replace q229:=eq_true q229
            try go_wp2_with (first|((with_reducible refine gate_dst (N:=4) rfl ?_);(try (refine gate_guard (by rfl) ?_;dsimp only));refine box_event ?hg (N:=4) ?hd (cs:=#[.int .i8 0,.int .i8 0,.int .i8 0,.int .i8 0]) (t:=36) ?hr ?_;(case hd=>rfl);(case hg=>rfl);(case hr=>first|(go_simp;done)|(go_simp;rfl));intro gb230 hg w22 hbox hb;have n0_:=am_ (kB_ (g:=gb226) (o:=.cells #[.int .i8 a0_0,.int .i8 a0_1,.slice (some ad229) l0_2.length c0_2] 25 (0,0)) (by (with_reducible repeat (first|apply kN_|apply kD_|apply kA_));exact BK226.out) hb);have n1_:=am_ (bT_ (by repeat (first|(with_reducible first|exact HB.out|apply bA_|apply bN_|apply bD_|refine bS_ ?_ GE226.out)|exact HB.out)) hb);have n2_:=am_ (hbox);have n3_:=am_ ((by rw [hg];exact (bZ_ (by repeat (first|(with_reducible first|exact HB.out|apply bA_|apply bN_|apply bD_|refine bS_ ?_ GE226.out)|exact HB.out))) : w.heap.size≤gb230));have n4_:=n3_;have n5_:=am_ ((by rw [hg];exact nL_ (kL_ (g:=gb226) (o:=.cells #[.int .i8 a0_0,.int .i8 a0_1,.slice (some ad229) l0_2.length c0_2] 25 (0,0)) (by (with_reducible repeat (first|apply kN_|apply kD_|apply kA_));exact BK226.out)) : gb226 ≠ gb230));have n6_:=am_ ((by rw [hg];exact nG_ (kL_ (g:=gb226) (o:=.cells #[.int .i8 a0_0,.int .i8 a0_1,.slice (some ad229) l0_2.length c0_2] 25 (0,0)) (by (with_reducible repeat (first|apply kN_|apply kD_|apply kA_));exact BK226.out)) : gb230 ≠ gb226));clear BK226;clear HB;have BK226:=n0_;have HB:=n1_;have BK230:=n2_;have GW230:=n3_;have GE230:=n4_;have NB226_230:=n5_;have NB230_226:=n6_;clear n0_ n1_ n2_ n3_ n4_ n5_ n6_;clear hb hbox hg;have hnb23:=NB230_226.out;have hnc23:=NB226_230.out;have hcz24_0 : w22.cell? ⟨gb230,0,none⟩ = some (.int .i8 0):=(kC_ BK230.out 0).trans rfl;have hcz24_1 : w22.cell? ⟨gb230,1,none⟩ = some (.int .i8 0):=(kC_ BK230.out 1).trans rfl;have hcz24_2 : w22.cell? ⟨gb230,2,none⟩ = some (.int .i8 0):=(kC_ BK230.out 2).trans rfl;have hcz24_3 : w22.cell? ⟨gb230,3,none⟩ = some (.int .i8 0):=(kC_ BK230.out 3).trans rfl;have hfz24_0:=kF_ BK230.out 0;have hfz24_1:=kF_ BK230.out 1;have hfz24_2:=kF_ BK230.out 2;have hfz24_3:=kF_ BK230.out 3))
            have n0_ : Aside0 (((((w22.setCell ⟨gb230,0,none⟩ (.int .i8 ((rd_T36 l0_2 x26_2).f0))).setCell ⟨gb230,1,none⟩ (.int .i8 ((rd_T36 l0_2 x26_2).f1))).setCell ⟨gb230,2,none⟩ (.int .i8 ((rd_T36 l0_2 x26_2).f2))).setCell ⟨gb230,3,none⟩ (.int .i8 ((rd_T36 l0_2 x26_2).f3))).heap[gb226]? = some (.cells #[.int .i8 a0_0,.int .i8 a0_1,.slice (some ad229) l0_2.length c0_2] 25 (0,0))):=⟨by (with_reducible repeat (first|apply kN_|apply kD_|apply kA_));refine kX_ ?_ NB226_230.out _;(with_reducible repeat (first|apply kN_|apply kD_|apply kA_));refine kX_ ?_ NB226_230.out _;(with_reducible repeat (first|apply kN_|apply kD_|apply kA_));refine kX_ ?_ NB226_230.out _;(with_reducible repeat (first|apply kN_|apply kD_|apply kA_));refine kX_ ?_ NB226_230.out _;(with_reducible repeat (first|apply kN_|apply kD_|apply kA_));exact BK226.out⟩
            have n1_ : Aside0 (((((w22.setCell ⟨gb230,0,none⟩ (.int .i8 ((rd_T36 l0_2 x26_2).f0))).setCell ⟨gb230,1,none⟩ (.int .i8 ((rd_T36 l0_2 x26_2).f1))).setCell ⟨gb230,2,none⟩ (.int .i8 ((rd_T36 l0_2 x26_2).f2))).setCell ⟨gb230,3,none⟩ (.int .i8 ((rd_T36 l0_2 x26_2).f3))).heap[gb230]? = some (.cells #[.int .i8 ((rd_T36 l0_2 x26_2).f0),.int .i8 ((rd_T36 l0_2 x26_2).f1),.int .i8 ((rd_T36 l0_2 x26_2).f2),.int .i8 ((rd_T36 l0_2 x26_2).f3)] 36 (0,0))):=⟨by (with_reducible repeat (first|apply kN_|apply kD_|apply kA_));refine blk_put (cs:=#[.int .i8 ((rd_T36 l0_2 x26_2).f0),.int .i8 ((rd_T36 l0_2 x26_2).f1),.int .i8 ((rd_T36 l0_2 x26_2).f2),.int .i8 0]) ?_ 3 _ rfl;(with_reducible repeat (first|apply kN_|apply kD_|apply kA_));refine blk_put (cs:=#[.int .i8 ((rd_T36 l0_2 x26_2).f0),.int .i8 ((rd_T36 l0_2 x26_2).f1),.int .i8 0,.int .i8 0]) ?_ 2 _ rfl;(with_reducible repeat (first|apply kN_|apply kD_|apply kA_));refine blk_put (cs:=#[.int .i8 ((rd_T36 l0_2 x26_2).f0),.int .i8 0,.int .i8 0,.int .i8 0]) ?_ 1 _ rfl;(with_reducible repeat (first|apply kN_|apply kD_|apply kA_));refine blk_put (cs:=#[.int .i8 0,.int .i8 0,.int .i8 0,.int .i8 0]) ?_ 0 _ rfl;(with_reducible repeat (first|apply kN_|apply kD_|apply kA_));exact BK230.out⟩
            have n2_ : Aside0 (Below w.heap.size w ((((w22.setCell ⟨gb230,0,none⟩ (.int .i8 ((rd_T36 l0_2 x26_2).f0))).setCell ⟨gb230,1,none⟩ (.int .i8 ((rd_T36 l0_2 x26_2).f1))).setCell ⟨gb230,2,none⟩ (.int .i8 ((rd_T36 l0_2 x26_2).f2))).setCell ⟨gb230,3,none⟩ (.int .i8 ((rd_T36 l0_2 x26_2).f3)))):=⟨by repeat (first|(with_reducible first|exact HB.out|apply bA_|apply bN_|apply bD_|refine bS_ ?_ GE226.out|refine bS_ ?_ GE230.out)|exact HB.out)⟩
            (try clear BK226);(try clear BK230);(try clear HB);generalize ((((w22.setCell ⟨gb230,0,none⟩ (.int .i8 ((rd_T36 l0_2 x26_2).f0))).setCell ⟨gb230,1,none⟩ (.int .i8 ((rd_T36 l0_2 x26_2).f1))).setCell ⟨gb230,2,none⟩ (.int .i8 ((rd_T36 l0_2 x26_2).f2))).setCell ⟨gb230,3,none⟩ (.int .i8 ((rd_T36 l0_2 x26_2).f3))) = w25 at n0_ n1_ n2_ ⊢;have BK226:=n0_;have BK230:=n1_;have HB:=n2_;clear n0_ n1_ n2_;have n0_:=am_ (kD_ BK226.out);have n1_:=am_ (kD_ BK230.out);have n2_:=am_ (bD_ HB.out);clear BK226;clear BK230;clear HB;have BK226:=n0_;have BK230:=n1_;have HB:=n2_;clear n0_ n1_ n2_;refine start_ (n:=28) (S:=fun w'=>w'.cell? ⟨gb230,0,none⟩ = some (.int .i8 ((rd_T36 l0_2 x26_2).f0)) ∧ w'.cell? ⟨gb230,1,none⟩ = some (.int .i8 ((rd_T36 l0_2 x26_2).f1)) ∧ w'.cell? ⟨gb230,2,none⟩ = some (.int .i8 ((rd_T36 l0_2 x26_2).f2)) ∧ w'.cell? ⟨gb230,3,none⟩ = some (.int .i8 ((rd_T36 l0_2 x26_2).f3)) ∧ w'.cell? ⟨gb226,0,none⟩ = some (.int .i8 a0_0) ∧ w'.cell? ⟨gb226,1,none⟩ = some (.int .i8 a0_1) ∧ w'.cell? ⟨gb226,2,none⟩ = some (.slice (some ad229) l0_2.length c0_2)) (ds:=[]) (mB_ 28 0) (by kernel_rfl) rfl rfl ⟨(kC_ BK230.out 0).trans rfl,(kC_ BK230.out 1).trans rfl,(kC_ BK230.out 2).trans rfl,(kC_ BK230.out 3).trans rfl,(kC_ BK226.out 0).trans rfl,(kC_ BK226.out 1).trans rfl,(kC_ BK226.out 2).trans rfl⟩ (fun hHeld=>?_);refine with_tabW impl_ValidSquare.tab6 impl_ValidSquare.bits6 (fun HT_ HW_=>?_);generalize w25.drew = w26 at BK226 BK230 HB hHeld ⊢;refine take_ (i:=0) (N:=some 31) (v:=?_) (a':=?_) (mB_ 28 1) rfl rfl (take_ofW HT_.out HW_.out (by kernel_rfl)) (fun _ _ _ h=>h) (Or.inl ⟨by rfl,?_⟩) hHeld ?_ ?_;rotate_left
            ·
             rintro w' ⟨s0,s1,s2,s3,s4,s5,s6⟩
             go_simp
             with_reducible rfl
            rotate_left
            ·
             simp only [Act.put,z1_,z2_,z3_,i64_w,i32_w]
             rfl
            refine take_ (i:=1) (N:=some 32) (v:=?_) (a':=?_) (mB_ 28 3) rfl rfl (take_ofW HT_.out HW_.out (by kernel_rfl)) (fun _ _ _ h=>h) (Or.inl ⟨by rfl,?_⟩) hHeld ?_ ?_;rotate_left
            ·
             rintro w' ⟨s0,s1,s2,s3,s4,s5,s6⟩
             go_simp
             with_reducible rfl
            rotate_left
            ·
             simp only [Act.put,z1_,z2_,z3_,i64_w,i32_w]
             rfl
            refine one_ (i:=2) (N:=some 33) (mB_ 28 7) rfl rfl (one_of HT_.out (by kernel_rfl)) (by decide) (fun K hK=>?_);refine goes_ Tryd.func38 (by kernel_rfl) rfl #[.agg #[.int .i8 ((rd_T36 l0_2 x26_2).f0),.int .i8 ((rd_T36 l0_2 x26_2).f1),.int .i8 ((rd_T36 l0_2 x26_2).f2),.int .i8 ((rd_T36 l0_2 x26_2).f3)],.agg #[.int .i8 a0_0,.int .i8 a0_1,.slice (some ad229) l0_2.length c0_2]] (by rfl) rfl rfl (by (try simp only [List.map_toArray,List.map_cons,List.map_nil]);first|done|rfl|(simp only [List.length_drop,List.length_take];rfl)) ?_
            with_reducible refine (impl_Slab_isIn.calls ((rd_T36 l0_2 x26_2).f0) ((rd_T36 l0_2 x26_2).f1) ((rd_T36 l0_2 x26_2).f2) ((rd_T36 l0_2 x26_2).f3) a0_0 a0_1 _ _ l0_2 true _ ?side1 ?side2 A16.out).mono ?_
            (case side1=>repeat (first|exact (cB_ HR0_2.out HB.out)|(with_reducible refine Kd.C_alloc ?_ _)|(with_reducible refine Kd.C_drewN ?_ _)|(with_reducible refine Kd.C_drew ?_)))
            (case side2=>exact HC0_2.out)
            rintro e w27 ⟨rfl,hb⟩;refine ⟨_,rfl,?_⟩;have n0_:=am_ (kB_ (g:=gb226) (o:=.cells #[.int .i8 a0_0,.int .i8 a0_1,.slice (some ad229) l0_2.length c0_2] 25 (0,0)) (by (with_reducible repeat (first|apply kN_|apply kD_|apply kA_));exact BK226.out) hb);have n1_:=am_ (kB_ (g:=gb230) (o:=.cells #[.int .i8 ((rd_T36 l0_2 x26_2).f0),.int .i8 ((rd_T36 l0_2 x26_2).f1),.int .i8 ((rd_T36 l0_2 x26_2).f2),.int .i8 ((rd_T36 l0_2 x26_2).f3)] 36 (0,0)) (by (with_reducible repeat (first|apply kN_|apply kD_|apply kA_));exact BK230.out) hb);have n2_:=am_ (bT_ (by repeat (first|(with_reducible first|exact HB.out|apply bA_|apply bN_|apply bD_|refine bS_ ?_ GE226.out|refine bS_ ?_ GE230.out)|exact HB.out)) hb);clear BK226;clear BK230;clear HB;have BK226:=n0_;have BK230:=n1_;have HB:=n2_;clear n0_ n1_ n2_;(try clear hb);(try clear hb2);(try clear hk);(try clear hi);have q28 : (x26_2 : Int)≤((l0_2.length : Int) : Int):=od_ (by first|(with_reducible assumption)|assumption);obtain ⟨i028,hi028,_,hsz28,_⟩:=info_parts info36;have hroom28 : l0_2.length≤c0_2:=HC0_2.out;have hC28 : Kd.C k36 _ (some ad229) l0_2.length l0_2:=HR0_2.out;have hcut28:=cut_to (P:=Tryd.prog) 23 36 .i64 Tryd.underlying23 hi028 (some ad229) l0_2.length c0_2 x26_2 (od_ (by first|(with_reducible assumption)|assumption)) q28 hroom28;have hr28:=Kd.C_take (m:=(x26_2 : Int).toNat) hC28 (by omega);have hy28 : y232.length = (x26_2 : Int).toNat:=(by rw [Ny232.out,List.length_take];omega)
            rw [← Ny232.out] at hr28;rw [← hy28] at hcut28;have HR235:=am_ hr28;have HC235:=am_ (show y232.length≤c0_2 from by omega);clear hr28 hC28 hroom28 hi028 hsz28;have KY28:=am_ hy28;clear hy28;replace q28:=eq_true q28;refine hK.out _ _ ⟨(kC_ BK230.out 0).trans rfl,(kC_ BK230.out 1).trans rfl,(kC_ BK230.out 2).trans rfl,(kC_ BK230.out 3).trans rfl,(kC_ BK226.out 0).trans rfl,(kC_ BK226.out 1).trans rfl,(kC_ BK226.out 2).trans rfl⟩ (fun hHeld=>?_);clear hK K;refine norm_ (a':=?_) ?_ ?_;rotate_left
            ·
             show Act.put _ (some 33) _ = _
             simp only [Act.put,z1_,z2_,z3_,i64_w,i32_w]
             rfl
            refine pure_ (i:=3) (N:=some 34) (v:=?_) (a':=?_) (mB_ 28 15) rfl rfl (any_of HT_.out (by kernel_rfl)) (fun _ _ _ h=>h) (Or.inl ⟨by rfl,?_⟩) ?_ ?_;rotate_left
            ·
             intro w'
             go_simp
             with_reducible rfl
            rotate_left
            ·
             simp only [Act.put,z1_,z2_,z3_,i64_w,i32_w]
             rfl
            refine pure_ (i:=4) (N:=some 35) (v:=?_) (a':=?_) (mB_ 28 31) rfl rfl (any_of HT_.out (by kernel_rfl)) (fun _ _ _ h=>h) (Or.inl ⟨by rfl,?_⟩) ?_ ?_;rotate_left
            ·
             intro w'
             go_simp
             with_reducible rfl
            rotate_left
            ·
             simp only [Act.put,z1_,z2_,z3_,i64_w,i32_w]
             rfl
            refine pure_ (i:=5) (N:=some 36) (v:=?_) (a':=?_) (mB_ 28 63) rfl rfl (any_of HT_.out (by kernel_rfl)) (fun _ _ _ h=>h) (Or.inl ⟨by rfl,?_⟩) ?_ ?_;rotate_left
            ·
             intro w'
             go_simp
             with_reducible rfl
            rotate_left
            ·
             simp only [Act.put,z1_,z2_,z3_,i64_w,i32_w]
             rfl
            refine pure_ (i:=7) (N:=some 38) (v:=?_) (a':=?_) (mB_ 28 191) rfl rfl (any_of HT_.out (by kernel_rfl)) (fun _ _ _ h=>h) (Or.inl ⟨by rfl,?_⟩) ?_ ?_;rotate_left
            ·
             intro w'
             go_simp
             with_reducible rfl
            rotate_left
            ·
             simp only [Act.put,z1_,z2_,z3_,i64_w,i32_w]
             rfl
            refine take_ (i:=6) (N:=some 37) (v:=?_) (a':=?_) (mB_ 28 255) rfl rfl (take_ofW HT_.out HW_.out (by kernel_rfl)) (fun _ _ _ h=>h) (Or.inl ⟨by rfl,?_⟩) hHeld ?_ ?_;rotate_left
            ·
             rintro w' ⟨s0,s1,s2,s3,s4,s5,s6⟩
             go_simp
             with_reducible rfl
            rotate_left
            ·
             simp only [Act.put,z1_,z2_,z3_,i64_w,i32_w]
             rfl
            refine pure_ (i:=8) (N:=some 39) (v:=?_) (a':=?_) (mB_ 28 511) rfl rfl (any_of HT_.out (by kernel_rfl)) (fun _ _ _ h=>h) (Or.inl ⟨by rfl,?_⟩) ?_ ?_;rotate_left
            ·
             intro w'
             go_simp
             with_reducible rfl
            rotate_left
            ·
             simp only [Act.put,z1_,z2_,z3_,i64_w,i32_w]
             rfl
            refine take_ (i:=9) (N:=some 40) (v:=?_) (a':=?_) (mB_ 28 1023) rfl rfl (take_ofW HT_.out HW_.out (by kernel_rfl)) (fun _ _ _ h=>h) (Or.inl ⟨by rfl,?_⟩) hHeld ?_ ?_;rotate_left
            ·
             rintro w' ⟨s0,s1,s2,s3,s4,s5,s6⟩
             go_simp
             with_reducible rfl
            rotate_left
            ·
             simp only [Act.put,z1_,z2_,z3_,i64_w,i32_w]
             rfl
            refine pure_ (i:=10) (N:=some 41) (v:=?_) (a':=?_) (mB_ 28 2047) rfl rfl (any_of HT_.out (by kernel_rfl)) (fun _ _ _ h=>h) (Or.inl ⟨by rfl,?_⟩) ?_ ?_;rotate_left
            ·
             intro w'
             go_simp
             with_reducible rfl
            rotate_left
            ·
             simp only [Act.put,z1_,z2_,z3_,i64_w,i32_w]
             rfl
            refine one_ (i:=11) (N:=some 42) (mB_ 28 4095) rfl rfl (one_of HT_.out (by kernel_rfl)) (by decide) (fun K hK=>?_);refine goes_ Tryd.func39 (by kernel_rfl) rfl #[.slice (some ad229) y232.length c0_2,.func (.func 40) #[.agg #[.int .i8 ((rd_T36 l0_2 x26_2).f0),.int .i8 ((rd_T36 l0_2 x26_2).f1),.int .i8 ((rd_T36 l0_2 x26_2).f2),.int .i8 ((rd_T36 l0_2 x26_2).f3)]] #[]] (by rfl) rfl rfl (by (try simp only [List.map_toArray,List.map_cons,List.map_nil]);first|done|rfl|(simp only [List.length_drop,List.length_take];rfl)) ?_
            with_reducible refine (slices_ContainsFunc_impl_Slab_at_impl_Slab_meets.calls k2 _ _ y232 ((rd_T36 l0_2 x26_2).f0) ((rd_T36 l0_2 x26_2).f1) ((rd_T36 l0_2 x26_2).f2) ((rd_T36 l0_2 x26_2).f3) true _ ?side1 ?side2 A20.out).mono ?_
            (case side1=>repeat (first|exact (cB_ HR235.out HB.out)|(with_reducible refine Kd.C_alloc ?_ _)|(with_reducible refine Kd.C_drewN ?_ _)|(with_reducible refine Kd.C_drew ?_)))
            (case side2=>exact HC235.out)
            rintro e w29 ⟨rfl,hb⟩;refine ⟨_,rfl,?_⟩;have n0_:=am_ (kB_ (g:=gb226) (o:=.cells #[.int .i8 a0_0,.int .i8 a0_1,.slice (some ad229) l0_2.length c0_2] 25 (0,0)) (by (with_reducible repeat (first|apply kN_|apply kD_|apply kA_));exact BK226.out) hb);have n1_:=am_ (kB_ (g:=gb230) (o:=.cells #[.int .i8 ((rd_T36 l0_2 x26_2).f0),.int .i8 ((rd_T36 l0_2 x26_2).f1),.int .i8 ((rd_T36 l0_2 x26_2).f2),.int .i8 ((rd_T36 l0_2 x26_2).f3)] 36 (0,0)) (by (with_reducible repeat (first|apply kN_|apply kD_|apply kA_));exact BK230.out) hb);have n2_:=am_ (bT_ (by repeat (first|(with_reducible first|exact HB.out|apply bA_|apply bN_|apply bD_|refine bS_ ?_ GE226.out|refine bS_ ?_ GE230.out)|exact HB.out)) hb);clear BK226;clear BK230;clear HB;have BK226:=n0_;have BK230:=n1_;have HB:=n2_;clear n0_ n1_ n2_;(try clear hb);(try clear hb2);(try clear hk);(try clear hi);refine hK.out _ _ ⟨(kC_ BK230.out 0).trans rfl,(kC_ BK230.out 1).trans rfl,(kC_ BK230.out 2).trans rfl,(kC_ BK230.out 3).trans rfl,(kC_ BK226.out 0).trans rfl,(kC_ BK226.out 1).trans rfl,(kC_ BK226.out 2).trans rfl⟩ (fun hHeld=>?_);clear hK K;refine norm_ (a':=?_) ?_ ?_;rotate_left
            ·
             show Act.put _ (some 42) _ = _
             simp only [Act.put,z1_,z2_,z3_,i64_w,i32_w]
             rfl
            refine pure_ (i:=12) (N:=some 43) (v:=?_) (a':=?_) (mB_ 28 8191) rfl rfl (any_of HT_.out (by kernel_rfl)) (fun _ _ _ h=>h) (Or.inl ⟨by rfl,?_⟩) ?_ ?_;rotate_left
            ·
             intro w'
             go_simp
             with_reducible rfl
            rotate_left
            ·
             simp only [Act.put,z1_,z2_,z3_,i64_w,i32_w]
             rfl
            refine pure_ (i:=13) (N:=some 44) (v:=?_) (a':=?_) (mB_ 28 16383) rfl rfl (any_of HT_.out (by kernel_rfl)) (fun _ _ _ h=>h) (Or.inl ⟨by rfl,?_⟩) ?_ ?_;rotate_left
            ·
             intro w'
             go_simp
             with_reducible rfl
            rotate_left
            ·
             simp only [Act.put,z1_,z2_,z3_,i64_w,i32_w]
             rfl
            refine pure_ (i:=14) (N:=some 45) (v:=undef) (a':=?_) (mB_ 28 32767) rfl rfl (any_of HT_.out (by kernel_rfl)) (fun _ _ _ h=>h) (Or.inr ⟨by rfl,rfl⟩) ?_ ?_;rotate_left
            ·
             simp only [Act.put,z1_,z2_,z3_,i64_w,i32_w]
             rfl
            refine pure_ (i:=15) (N:=some 46) (v:=undef) (a':=?_) (mB_ 28 65535) rfl rfl (any_of HT_.out (by kernel_rfl)) (fun _ _ _ h=>h) (Or.inr ⟨by rfl,rfl⟩) ?_ ?_;rotate_left
            ·
             simp only [Act.put,z1_,z2_,z3_,i64_w,i32_w]
             rfl
            refine pure_ (i:=16) (N:=some 47) (v:=undef) (a':=?_) (mB_ 28 131071) rfl rfl (any_of HT_.out (by kernel_rfl)) (fun _ _ _ h=>h) (Or.inr ⟨by rfl,rfl⟩) ?_ ?_;rotate_left
            ·
             simp only [Act.put,z1_,z2_,z3_,i64_w,i32_w]
             rfl
            refine pure_ (i:=17) (N:=some 48) (v:=undef) (a':=?_) (mB_ 28 262143) rfl rfl (any_of HT_.out (by kernel_rfl)) (fun _ _ _ h=>h) (Or.inr ⟨by rfl,rfl⟩) ?_ ?_;rotate_left
            ·
             simp only [Act.put,z1_,z2_,z3_,i64_w,i32_w]
             rfl
            refine pure_ (i:=18) (N:=some 49) (v:=undef) (a':=?_) (mB_ 28 524287) rfl rfl (any_of HT_.out (by kernel_rfl)) (fun _ _ _ h=>h) (Or.inr ⟨by rfl,rfl⟩) ?_ ?_;rotate_left
            ·
             simp only [Act.put,z1_,z2_,z3_,i64_w,i32_w]
             rfl
            refine pure_ (i:=19) (N:=some 50) (v:=undef) (a':=?_) (mB_ 28 1048575) rfl rfl (any_of HT_.out (by kernel_rfl)) (fun _ _ _ h=>h) (Or.inr ⟨by rfl,rfl⟩) ?_ ?_;rotate_left
            ·
             simp only [Act.put,z1_,z2_,z3_,i64_w,i32_w]
             rfl
            refine pure_ (i:=20) (N:=some 51) (v:=undef) (a':=?_) (mB_ 28 2097151) rfl rfl (any_of HT_.out (by kernel_rfl)) (fun _ _ _ h=>h) (Or.inr ⟨by rfl,rfl⟩) ?_ ?_;rotate_left
            ·
             simp only [Act.put,z1_,z2_,z3_,i64_w,i32_w]
             rfl
            refine pure_ (i:=21) (N:=some 52) (v:=undef) (a':=?_) (mB_ 28 4194303) rfl rfl (any_of HT_.out (by kernel_rfl)) (fun _ _ _ h=>h) (Or.inr ⟨by rfl,rfl⟩) ?_ ?_;rotate_left
            ·
             simp only [Act.put,z1_,z2_,z3_,i64_w,i32_w]
             rfl
            refine pure_ (i:=22) (N:=some 53) (v:=undef) (a':=?_) (mB_ 28 8388607) rfl rfl (any_of HT_.out (by kernel_rfl)) (fun _ _ _ h=>h) (Or.inr ⟨by rfl,rfl⟩) ?_ ?_;rotate_left
            ·
             simp only [Act.put,z1_,z2_,z3_,i64_w,i32_w]
             rfl
            refine pure_ (i:=23) (N:=some 54) (v:=undef) (a':=?_) (mB_ 28 16777215) rfl rfl (any_of HT_.out (by kernel_rfl)) (fun _ _ _ h=>h) (Or.inr ⟨by rfl,rfl⟩) ?_ ?_;rotate_left
            ·
             simp only [Act.put,z1_,z2_,z3_,i64_w,i32_w]
             rfl
            refine pure_ (i:=24) (N:=some 55) (v:=undef) (a':=?_) (mB_ 28 33554431) rfl rfl (any_of HT_.out (by kernel_rfl)) (fun _ _ _ h=>h) (Or.inr ⟨by rfl,rfl⟩) ?_ ?_;rotate_left
            ·
             simp only [Act.put,z1_,z2_,z3_,i64_w,i32_w]
             rfl
            refine pure_ (i:=25) (N:=some 56) (v:=undef) (a':=?_) (mB_ 28 67108863) rfl rfl (any_of HT_.out (by kernel_rfl)) (fun _ _ _ h=>h) (Or.inr ⟨by rfl,rfl⟩) ?_ ?_;rotate_left
            ·
             simp only [Act.put,z1_,z2_,z3_,i64_w,i32_w]
             rfl
            refine pure_ (i:=26) (N:=some 57) (v:=undef) (a':=?_) (mB_ 28 134217727) rfl rfl (any_of HT_.out (by kernel_rfl)) (fun _ _ _ h=>h) (Or.inr ⟨by rfl,rfl⟩) ?_ ?_;rotate_left
            ·
             simp only [Act.put,z1_,z2_,z3_,i64_w,i32_w]
             rfl
            refine pure_ (i:=27) (N:=some 58) (v:=?_) (a':=?_) (mB_ 28 268435455) rfl rfl (any_of HT_.out (by kernel_rfl)) (fun _ _ _ h=>h) (Or.inl ⟨by rfl,?_⟩) ?_ ?_;rotate_left
            ·
             intro w'
             go_simp
             with_reducible rfl
            rotate_left
            ·
             simp only [Act.put,z1_,z2_,z3_,i64_w,i32_w]
             rfl
            refine done_ (done_of HT_.out (by kernel_rfl)) ?_
            try go_wp2
            go_ret
            exact ⟨by first|rfl|(simp [errW_none,errW_some] <;> rfl)|(simp [*,errW_none,errW_some] <;> rfl),by repeat (first|(with_reducible first|exact HB.out|apply bA_|apply bN_|apply bD_|refine bS_ ?_ GE226.out|refine bS_ ?_ GE230.out)|exact HB.out)⟩
           ·
            replace c21:=Bool.eq_false_iff.mpr c21;subst c21;have H1 : (if x26_2 > 0 then (if 0≤(wrap64 (x26_2 - 1)) then (if (wrap64 (x26_2 - 1)) < (l0_2.length : Int) then ((impl_compareSlabs.f k2 ((rd_T36 l0_2 (wrap64 (x26_2 - 1))).f0) ((rd_T36 l0_2 (wrap64 (x26_2 - 1))).f1) ((rd_T36 l0_2 (wrap64 (x26_2 - 1))).f2) ((rd_T36 l0_2 (wrap64 (x26_2 - 1))).f3) ((rd_T36 l0_2 x26_2).f0) ((rd_T36 l0_2 x26_2).f1) ((rd_T36 l0_2 x26_2).f2) ((rd_T36 l0_2 x26_2).f3)).bind fun t238=>(if t238 > 0 then (some false) else (impl_ValidSquare.l0 k2 l0_2 (l0_2.length : Int) (wrap64 (x26_2 + 1)) a0_0 a0_1 l0_2))) else (none)) else (none)) else (impl_ValidSquare.l0 k2 l0_2 (l0_2.length : Int) (wrap64 (x26_2 + 1)) a0_0 a0_1 l0_2)) = some r:=by rw [if_neg (show ¬ (false = true) by decide)] at H;exact H
            clear H;have H:=H1;clear H1
            by_cases c30 : x26_2 > 0
            ·
             rw [if_pos c30] at H;have c30b0 : decide (0 < x26_2) = true:=decide_eq_true c30;clear c30;obtain ⟨ji31,hji31⟩ : ∃ j_ : Int,(wrap64 (x26_2 - 1)) = j_:=⟨_,rfl⟩
             replace H : (if 0≤(ji31) then (if (ji31) < (l0_2.length : Int) then ((impl_compareSlabs.f k2 ((rd_T36 l0_2 (ji31)).f0) ((rd_T36 l0_2 (ji31)).f1) ((rd_T36 l0_2 (ji31)).f2) ((rd_T36 l0_2 (ji31)).f3) ((rd_T36 l0_2 x26_2).f0) ((rd_T36 l0_2 x26_2).f1) ((rd_T36 l0_2 x26_2).f2) ((rd_T36 l0_2 x26_2).f3)).bind fun t238=>(if t238 > 0 then (some false) else (impl_ValidSquare.l0 k2 l0_2 (l0_2.length : Int) (wrap64 (x26_2 + 1)) a0_0 a0_1 l0_2))) else (none)) else (none)) = some r:=by first|(rw [hji31] at H;exact H)|(simp only [hji31] at H ⊢;exact H)
             (try rw [hji31] at A16);(try rw [hji31] at A20);have hji31w : (IntKind.i64.wrap (x26_2 - 1)) = ji31:=(i64_w _).trans hji31
             by_cases c32 : 0≤(ji31)
             ·
              rw [if_pos c32] at H;have c32b0 : decide (0≤(ji31)) = true:=decide_eq_true c32;clear c32
              by_cases c33 : (ji31) < (l0_2.length : Int)
              ·
               rw [if_pos c33] at H;have c33b0 : decide ((ji31) < (l0_2.length : Int)) = true:=decide_eq_true c33;clear c33;replace H:=Option.bind_eq_some_iff.mp H;obtain ⟨t238,A340,H⟩:=H;replace H : (if t238 > 0 then (some false) else (impl_ValidSquare.l0 k2 l0_2 (l0_2.length : Int) (wrap64 (x26_2 + 1)) a0_0 a0_1 l0_2)) = some r:=H;have A34:=am_ A340;clear A340
               by_cases c35 : t238 > 0
               ·
                rw [if_pos c35] at H;have c35b0 : decide (0 < t238) = true:=decide_eq_true c35;clear c35;obtain rfl:=Option.some.inj H;have p229 : 0≤(x26_2 : Int):=od_ (by first|(with_reducible assumption)|assumption);have q229 : x26_2 < (l0_2.length : Int):=od_ (by first|(with_reducible assumption)|assumption);obtain ⟨ad229,e229,hx229_0,hx229_1,hx229_2,hx229_3⟩:=at_T36 HR0_2.out x26_2 p229 q229
                cases e229
                replace hx229_0:=(HB.out.cell (bl_ w _ hx229_0)).trans hx229_0;replace hx229_1:=(HB.out.cell (bl_ w _ hx229_1)).trans hx229_1;replace hx229_2:=(HB.out.cell (bl_ w _ hx229_2)).trans hx229_2;replace hx229_3:=(HB.out.cell (bl_ w _ hx229_3)).trans hx229_3;replace p229:=eq_true p229;replace q229:=eq_true q229
                try go_wp2_with (first|((with_reducible refine gate_dst (N:=4) rfl ?_);(try (refine gate_guard (by rfl) ?_;dsimp only));refine box_event ?hg (N:=4) ?hd (cs:=#[.int .i8 0,.int .i8 0,.int .i8 0,.int .i8 0]) (t:=36) ?hr ?_;(case hd=>rfl);(case hg=>rfl);(case hr=>first|(go_simp;done)|(go_simp;rfl));intro gb230 hg w36 hbox hb;have n0_:=am_ (kB_ (g:=gb226) (o:=.cells #[.int .i8 a0_0,.int .i8 a0_1,.slice (some ad229) l0_2.length c0_2] 25 (0,0)) (by (with_reducible repeat (first|apply kN_|apply kD_|apply kA_));exact BK226.out) hb);have n1_:=am_ (bT_ (by repeat (first|(with_reducible first|exact HB.out|apply bA_|apply bN_|apply bD_|refine bS_ ?_ GE226.out)|exact HB.out)) hb);have n2_:=am_ (hbox);have n3_:=am_ ((by rw [hg];exact (bZ_ (by repeat (first|(with_reducible first|exact HB.out|apply bA_|apply bN_|apply bD_|refine bS_ ?_ GE226.out)|exact HB.out))) : w.heap.size≤gb230));have n4_:=n3_;have n5_:=am_ ((by rw [hg];exact nL_ (kL_ (g:=gb226) (o:=.cells #[.int .i8 a0_0,.int .i8 a0_1,.slice (some ad229) l0_2.length c0_2] 25 (0,0)) (by (with_reducible repeat (first|apply kN_|apply kD_|apply kA_));exact BK226.out)) : gb226 ≠ gb230));have n6_:=am_ ((by rw [hg];exact nG_ (kL_ (g:=gb226) (o:=.cells #[.int .i8 a0_0,.int .i8 a0_1,.slice (some ad229) l0_2.length c0_2] 25 (0,0)) (by (with_reducible repeat (first|apply kN_|apply kD_|apply kA_));exact BK226.out)) : gb230 ≠ gb226));clear BK226;clear HB;have BK226:=n0_;have HB:=n1_;have BK230:=n2_;have GW230:=n3_;have GE230:=n4_;have NB226_230:=n5_;have NB230_226:=n6_;clear n0_ n1_ n2_ n3_ n4_ n5_ n6_;clear hb hbox hg;have hnb37:=NB230_226.out;have hnc37:=NB226_230.out;have hcz38_0 : w36.cell? ⟨gb230,0,none⟩ = some (.int .i8 0):=(kC_ BK230.out 0).trans rfl;have hcz38_1 : w36.cell? ⟨gb230,1,none⟩ = some (.int .i8 0):=(kC_ BK230.out 1).trans rfl;have hcz38_2 : w36.cell? ⟨gb230,2,none⟩ = some (.int .i8 0):=(kC_ BK230.out 2).trans rfl;have hcz38_3 : w36.cell? ⟨gb230,3,none⟩ = some (.int .i8 0):=(kC_ BK230.out 3).trans rfl;have hfz38_0:=kF_ BK230.out 0;have hfz38_1:=kF_ BK230.out 1;have hfz38_2:=kF_ BK230.out 2;have hfz38_3:=kF_ BK230.out 3))
                have n0_ : Aside0 (((((w36.setCell ⟨gb230,0,none⟩ (.int .i8 ((rd_T36 l0_2 x26_2).f0))).setCell ⟨gb230,1,none⟩ (.int .i8 ((rd_T36 l0_2 x26_2).f1))).setCell ⟨gb230,2,none⟩ (.int .i8 ((rd_T36 l0_2 x26_2).f2))).setCell ⟨gb230,3,none⟩ (.int .i8 ((rd_T36 l0_2 x26_2).f3))).heap[gb226]? = some (.cells #[.int .i8 a0_0,.int .i8 a0_1,.slice (some ad229) l0_2.length c0_2] 25 (0,0))):=⟨by (with_reducible repeat (first|apply kN_|apply kD_|apply kA_));refine kX_ ?_ NB226_230.out _;(with_reducible repeat (first|apply kN_|apply kD_|apply kA_));refine kX_ ?_ NB226_230.out _;(with_reducible repeat (first|apply kN_|apply kD_|apply kA_));refine kX_ ?_ NB226_230.out _;(with_reducible repeat (first|apply kN_|apply kD_|apply kA_));refine kX_ ?_ NB226_230.out _;(with_reducible repeat (first|apply kN_|apply kD_|apply kA_));exact BK226.out⟩
                have n1_ : Aside0 (((((w36.setCell ⟨gb230,0,none⟩ (.int .i8 ((rd_T36 l0_2 x26_2).f0))).setCell ⟨gb230,1,none⟩ (.int .i8 ((rd_T36 l0_2 x26_2).f1))).setCell ⟨gb230,2,none⟩ (.int .i8 ((rd_T36 l0_2 x26_2).f2))).setCell ⟨gb230,3,none⟩ (.int .i8 ((rd_T36 l0_2 x26_2).f3))).heap[gb230]? = some (.cells #[.int .i8 ((rd_T36 l0_2 x26_2).f0),.int .i8 ((rd_T36 l0_2 x26_2).f1),.int .i8 ((rd_T36 l0_2 x26_2).f2),.int .i8 ((rd_T36 l0_2 x26_2).f3)] 36 (0,0))):=⟨by (with_reducible repeat (first|apply kN_|apply kD_|apply kA_));refine blk_put (cs:=#[.int .i8 ((rd_T36 l0_2 x26_2).f0),.int .i8 ((rd_T36 l0_2 x26_2).f1),.int .i8 ((rd_T36 l0_2 x26_2).f2),.int .i8 0]) ?_ 3 _ rfl;(with_reducible repeat (first|apply kN_|apply kD_|apply kA_));refine blk_put (cs:=#[.int .i8 ((rd_T36 l0_2 x26_2).f0),.int .i8 ((rd_T36 l0_2 x26_2).f1),.int .i8 0,.int .i8 0]) ?_ 2 _ rfl;(with_reducible repeat (first|apply kN_|apply kD_|apply kA_));refine blk_put (cs:=#[.int .i8 ((rd_T36 l0_2 x26_2).f0),.int .i8 0,.int .i8 0,.int .i8 0]) ?_ 1 _ rfl;(with_reducible repeat (first|apply kN_|apply kD_|apply kA_));refine blk_put (cs:=#[.int .i8 0,.int .i8 0,.int .i8 0,.int .i8 0]) ?_ 0 _ rfl;(with_reducible repeat (first|apply kN_|apply kD_|apply kA_));exact BK230.out⟩
                have n2_ : Aside0 (Below w.heap.size w ((((w36.setCell ⟨gb230,0,none⟩ (.int .i8 ((rd_T36 l0_2 x26_2).f0))).setCell ⟨gb230,1,none⟩ (.int .i8 ((rd_T36 l0_2 x26_2).f1))).setCell ⟨gb230,2,none⟩ (.int .i8 ((rd_T36 l0_2 x26_2).f2))).setCell ⟨gb230,3,none⟩ (.int .i8 ((rd_T36 l0_2 x26_2).f3)))):=⟨by repeat (first|(with_reducible first|exact HB.out|apply bA_|apply bN_|apply bD_|refine bS_ ?_ GE226.out|refine bS_ ?_ GE230.out)|exact HB.out)⟩
                (try clear BK226);(try clear BK230);(try clear HB);generalize ((((w36.setCell ⟨gb230,0,none⟩ (.int .i8 ((rd_T36 l0_2 x26_2).f0))).setCell ⟨gb230,1,none⟩ (.int .i8 ((rd_T36 l0_2 x26_2).f1))).setCell ⟨gb230,2,none⟩ (.int .i8 ((rd_T36 l0_2 x26_2).f2))).setCell ⟨gb230,3,none⟩ (.int .i8 ((rd_T36 l0_2 x26_2).f3))) = w39 at n0_ n1_ n2_ ⊢;have BK226:=n0_;have BK230:=n1_;have HB:=n2_;clear n0_ n1_ n2_;have n0_:=am_ (kD_ BK226.out);have n1_:=am_ (kD_ BK230.out);have n2_:=am_ (bD_ HB.out);clear BK226;clear BK230;clear HB;have BK226:=n0_;have BK230:=n1_;have HB:=n2_;clear n0_ n1_ n2_;have p237 : 0≤((ji31) : Int):=od_ (by first|(with_reducible assumption)|assumption);have q237 : (ji31) < (l0_2.length : Int):=od_ (by first|(with_reducible assumption)|assumption);obtain ⟨ad237,e237,hx237_0,hx237_1,hx237_2,hx237_3⟩:=at_T36 HR0_2.out (ji31) p237 q237;have hw237_3:=hx237_3;have hw237_2:=hx237_2;have hw237_1:=hx237_1;have hw237_0:=hx237_0;obtain rfl : ad229 = ad237:=(by injection e237)
                replace hx237_0:=(HB.out.cell (bl_ w _ hx237_0)).trans hx237_0;replace hx237_1:=(HB.out.cell (bl_ w _ hx237_1)).trans hx237_1;replace hx237_2:=(HB.out.cell (bl_ w _ hx237_2)).trans hx237_2;replace hx237_3:=(HB.out.cell (bl_ w _ hx237_3)).trans hx237_3;replace p237:=eq_true p237;replace q237:=eq_true q237;refine start_ (n:=28) (S:=fun w'=>w'.cell? ⟨gb230,0,none⟩ = some (.int .i8 ((rd_T36 l0_2 x26_2).f0)) ∧ w'.cell? ⟨gb230,1,none⟩ = some (.int .i8 ((rd_T36 l0_2 x26_2).f1)) ∧ w'.cell? ⟨gb230,2,none⟩ = some (.int .i8 ((rd_T36 l0_2 x26_2).f2)) ∧ w'.cell? ⟨gb230,3,none⟩ = some (.int .i8 ((rd_T36 l0_2 x26_2).f3)) ∧ w'.cell? ⟨gb226,0,none⟩ = some (.int .i8 a0_0) ∧ w'.cell? ⟨gb226,1,none⟩ = some (.int .i8 a0_1) ∧ w'.cell? ⟨gb226,2,none⟩ = some (.slice (some ad229) l0_2.length c0_2) ∧ w'.cell? (ad229.add (((ji31)).toNat * 4)) = some (.int .i8 ((rd_T36 l0_2 (ji31)).f0)) ∧ w'.cell? ⟨(ad229.add (((ji31)).toNat * 4)).block,(ad229.add (((ji31)).toNat * 4)).off + 1,none⟩ = some (.int .i8 ((rd_T36 l0_2 (ji31)).f1)) ∧ w'.cell? ⟨(ad229.add (((ji31)).toNat * 4)).block,(ad229.add (((ji31)).toNat * 4)).off + 2,none⟩ = some (.int .i8 ((rd_T36 l0_2 (ji31)).f2)) ∧ w'.cell? ⟨(ad229.add (((ji31)).toNat * 4)).block,(ad229.add (((ji31)).toNat * 4)).off + 3,none⟩ = some (.int .i8 ((rd_T36 l0_2 (ji31)).f3))) (ds:=[]) (mB_ 28 0) (by kernel_rfl) rfl rfl ⟨(kC_ BK230.out 0).trans rfl,(kC_ BK230.out 1).trans rfl,(kC_ BK230.out 2).trans rfl,(kC_ BK230.out 3).trans rfl,(kC_ BK226.out 0).trans rfl,(kC_ BK226.out 1).trans rfl,(kC_ BK226.out 2).trans rfl,((HB.out.cell (bl_ w _ hw237_0)).trans hw237_0),((HB.out.cell (bl_ w _ hw237_1)).trans hw237_1),((HB.out.cell (bl_ w _ hw237_2)).trans hw237_2),((HB.out.cell (bl_ w _ hw237_3)).trans hw237_3)⟩ (fun hHeld=>?_);refine with_tabW impl_ValidSquare.tab6 impl_ValidSquare.bits6 (fun HT_ HW_=>?_);generalize w39.drew = w40 at BK226 BK230 HB hx237_0 hx237_1 hx237_2 hx237_3 hHeld ⊢;refine take_ (i:=0) (N:=some 31) (v:=?_) (a':=?_) (mB_ 28 1) rfl rfl (take_ofW HT_.out HW_.out (by kernel_rfl)) (fun _ _ _ h=>h) (Or.inl ⟨by rfl,?_⟩) hHeld ?_ ?_;rotate_left
                ·
                 rintro w' ⟨s0,s1,s2,s3,s4,s5,s6,s7,s8,s9,s10⟩
                 go_simp
                 with_reducible rfl
                rotate_left
                ·
                 simp only [Act.put,z1_,z2_,z3_,i64_w,i32_w]
                 rfl
                refine take_ (i:=1) (N:=some 32) (v:=?_) (a':=?_) (mB_ 28 3) rfl rfl (take_ofW HT_.out HW_.out (by kernel_rfl)) (fun _ _ _ h=>h) (Or.inl ⟨by rfl,?_⟩) hHeld ?_ ?_;rotate_left
                ·
                 rintro w' ⟨s0,s1,s2,s3,s4,s5,s6,s7,s8,s9,s10⟩
                 go_simp
                 with_reducible rfl
                rotate_left
                ·
                 simp only [Act.put,z1_,z2_,z3_,i64_w,i32_w]
                 rfl
                refine one_ (i:=2) (N:=some 33) (mB_ 28 7) rfl rfl (one_of HT_.out (by kernel_rfl)) (by decide) (fun K hK=>?_);refine goes_ Tryd.func38 (by kernel_rfl) rfl #[.agg #[.int .i8 ((rd_T36 l0_2 x26_2).f0),.int .i8 ((rd_T36 l0_2 x26_2).f1),.int .i8 ((rd_T36 l0_2 x26_2).f2),.int .i8 ((rd_T36 l0_2 x26_2).f3)],.agg #[.int .i8 a0_0,.int .i8 a0_1,.slice (some ad229) l0_2.length c0_2]] (by rfl) rfl rfl (by (try simp only [List.map_toArray,List.map_cons,List.map_nil]);first|done|rfl|(simp only [List.length_drop,List.length_take];rfl)) ?_
                with_reducible refine (impl_Slab_isIn.calls ((rd_T36 l0_2 x26_2).f0) ((rd_T36 l0_2 x26_2).f1) ((rd_T36 l0_2 x26_2).f2) ((rd_T36 l0_2 x26_2).f3) a0_0 a0_1 _ _ l0_2 true _ ?side1 ?side2 A16.out).mono ?_
                (case side1=>repeat (first|exact (cB_ HR0_2.out HB.out)|(with_reducible refine Kd.C_alloc ?_ _)|(with_reducible refine Kd.C_drewN ?_ _)|(with_reducible refine Kd.C_drew ?_)))
                (case side2=>exact HC0_2.out)
                rintro e w41 ⟨rfl,hb⟩;refine ⟨_,rfl,?_⟩;have n0_:=am_ (kB_ (g:=gb226) (o:=.cells #[.int .i8 a0_0,.int .i8 a0_1,.slice (some ad229) l0_2.length c0_2] 25 (0,0)) (by (with_reducible repeat (first|apply kN_|apply kD_|apply kA_));exact BK226.out) hb);have n1_:=am_ (kB_ (g:=gb230) (o:=.cells #[.int .i8 ((rd_T36 l0_2 x26_2).f0),.int .i8 ((rd_T36 l0_2 x26_2).f1),.int .i8 ((rd_T36 l0_2 x26_2).f2),.int .i8 ((rd_T36 l0_2 x26_2).f3)] 36 (0,0)) (by (with_reducible repeat (first|apply kN_|apply kD_|apply kA_));exact BK230.out) hb);have n2_:=am_ (bT_ (by repeat (first|(with_reducible first|exact HB.out|apply bA_|apply bN_|apply bD_|refine bS_ ?_ GE226.out|refine bS_ ?_ GE230.out)|exact HB.out)) hb);clear BK226;clear BK230;clear HB;have BK226:=n0_;have BK230:=n1_;have HB:=n2_;clear n0_ n1_ n2_;(try clear hb);(try clear hb2);(try clear hk);(try clear hi);have q42 : (x26_2 : Int)≤((l0_2.length : Int) : Int):=od_ (by first|(with_reducible assumption)|assumption);obtain ⟨i042,hi042,_,hsz42,_⟩:=info_parts info36;have hroom42 : l0_2.length≤c0_2:=HC0_2.out;have hC42 : Kd.C k36 _ (some ad229) l0_2.length l0_2:=HR0_2.out;have hcut42:=cut_to (P:=Tryd.prog) 23 36 .i64 Tryd.underlying23 hi042 (some ad229) l0_2.length c0_2 x26_2 (od_ (by first|(with_reducible assumption)|assumption)) q42 hroom42;have hr42:=Kd.C_take (m:=(x26_2 : Int).toNat) hC42 (by omega);have hy42 : y232.length = (x26_2 : Int).toNat:=(by rw [Ny232.out,List.length_take];omega)
                rw [← Ny232.out] at hr42;rw [← hy42] at hcut42;have HR235:=am_ hr42;have HC235:=am_ (show y232.length≤c0_2 from by omega);clear hr42 hC42 hroom42 hi042 hsz42;have KY42:=am_ hy42;clear hy42;replace q42:=eq_true q42;refine hK.out _ _ ⟨(kC_ BK230.out 0).trans rfl,(kC_ BK230.out 1).trans rfl,(kC_ BK230.out 2).trans rfl,(kC_ BK230.out 3).trans rfl,(kC_ BK226.out 0).trans rfl,(kC_ BK226.out 1).trans rfl,(kC_ BK226.out 2).trans rfl,((HB.out.cell (bl_ w _ hw237_0)).trans hw237_0),((HB.out.cell (bl_ w _ hw237_1)).trans hw237_1),((HB.out.cell (bl_ w _ hw237_2)).trans hw237_2),((HB.out.cell (bl_ w _ hw237_3)).trans hw237_3)⟩ (fun hHeld=>?_);clear hK K;refine norm_ (a':=?_) ?_ ?_;rotate_left
                ·
                 show Act.put _ (some 33) _ = _
                 simp only [Act.put,z1_,z2_,z3_,i64_w,i32_w]
                 rfl
                refine pure_ (i:=3) (N:=some 34) (v:=?_) (a':=?_) (mB_ 28 15) rfl rfl (any_of HT_.out (by kernel_rfl)) (fun _ _ _ h=>h) (Or.inl ⟨by rfl,?_⟩) ?_ ?_;rotate_left
                ·
                 intro w'
                 go_simp
                 with_reducible rfl
                rotate_left
                ·
                 simp only [Act.put,z1_,z2_,z3_,i64_w,i32_w]
                 rfl
                refine pure_ (i:=4) (N:=some 35) (v:=?_) (a':=?_) (mB_ 28 31) rfl rfl (any_of HT_.out (by kernel_rfl)) (fun _ _ _ h=>h) (Or.inl ⟨by rfl,?_⟩) ?_ ?_;rotate_left
                ·
                 intro w'
                 go_simp
                 with_reducible rfl
                rotate_left
                ·
                 simp only [Act.put,z1_,z2_,z3_,i64_w,i32_w]
                 rfl
                refine pure_ (i:=5) (N:=some 36) (v:=?_) (a':=?_) (mB_ 28 63) rfl rfl (any_of HT_.out (by kernel_rfl)) (fun _ _ _ h=>h) (Or.inl ⟨by rfl,?_⟩) ?_ ?_;rotate_left
                ·
                 intro w'
                 go_simp
                 with_reducible rfl
                rotate_left
                ·
                 simp only [Act.put,z1_,z2_,z3_,i64_w,i32_w]
                 rfl
                refine pure_ (i:=7) (N:=some 38) (v:=?_) (a':=?_) (mB_ 28 191) rfl rfl (any_of HT_.out (by kernel_rfl)) (fun _ _ _ h=>h) (Or.inl ⟨by rfl,?_⟩) ?_ ?_;rotate_left
                ·
                 intro w'
                 go_simp
                 with_reducible rfl
                rotate_left
                ·
                 simp only [Act.put,z1_,z2_,z3_,i64_w,i32_w]
                 rfl
                refine take_ (i:=6) (N:=some 37) (v:=?_) (a':=?_) (mB_ 28 255) rfl rfl (take_ofW HT_.out HW_.out (by kernel_rfl)) (fun _ _ _ h=>h) (Or.inl ⟨by rfl,?_⟩) hHeld ?_ ?_;rotate_left
                ·
                 rintro w' ⟨s0,s1,s2,s3,s4,s5,s6,s7,s8,s9,s10⟩
                 go_simp
                 with_reducible rfl
                rotate_left
                ·
                 simp only [Act.put,z1_,z2_,z3_,i64_w,i32_w]
                 rfl
                refine pure_ (i:=8) (N:=some 39) (v:=?_) (a':=?_) (mB_ 28 511) rfl rfl (any_of HT_.out (by kernel_rfl)) (fun _ _ _ h=>h) (Or.inl ⟨by rfl,?_⟩) ?_ ?_;rotate_left
                ·
                 intro w'
                 go_simp
                 with_reducible rfl
                rotate_left
                ·
                 simp only [Act.put,z1_,z2_,z3_,i64_w,i32_w]
                 rfl
                refine take_ (i:=9) (N:=some 40) (v:=?_) (a':=?_) (mB_ 28 1023) rfl rfl (take_ofW HT_.out HW_.out (by kernel_rfl)) (fun _ _ _ h=>h) (Or.inl ⟨by rfl,?_⟩) hHeld ?_ ?_;rotate_left
                ·
                 rintro w' ⟨s0,s1,s2,s3,s4,s5,s6,s7,s8,s9,s10⟩
                 go_simp
                 with_reducible rfl
                rotate_left
                ·
                 simp only [Act.put,z1_,z2_,z3_,i64_w,i32_w]
                 rfl
                refine pure_ (i:=10) (N:=some 41) (v:=?_) (a':=?_) (mB_ 28 2047) rfl rfl (any_of HT_.out (by kernel_rfl)) (fun _ _ _ h=>h) (Or.inl ⟨by rfl,?_⟩) ?_ ?_;rotate_left
                ·
                 intro w'
                 go_simp
                 with_reducible rfl
                rotate_left
                ·
                 simp only [Act.put,z1_,z2_,z3_,i64_w,i32_w]
                 rfl
                refine one_ (i:=11) (N:=some 42) (mB_ 28 4095) rfl rfl (one_of HT_.out (by kernel_rfl)) (by decide) (fun K hK=>?_);refine goes_ Tryd.func39 (by kernel_rfl) rfl #[.slice (some ad229) y232.length c0_2,.func (.func 40) #[.agg #[.int .i8 ((rd_T36 l0_2 x26_2).f0),.int .i8 ((rd_T36 l0_2 x26_2).f1),.int .i8 ((rd_T36 l0_2 x26_2).f2),.int .i8 ((rd_T36 l0_2 x26_2).f3)]] #[]] (by rfl) rfl rfl (by (try simp only [List.map_toArray,List.map_cons,List.map_nil]);first|done|rfl|(simp only [List.length_drop,List.length_take];rfl)) ?_
                with_reducible refine (slices_ContainsFunc_impl_Slab_at_impl_Slab_meets.calls k2 _ _ y232 ((rd_T36 l0_2 x26_2).f0) ((rd_T36 l0_2 x26_2).f1) ((rd_T36 l0_2 x26_2).f2) ((rd_T36 l0_2 x26_2).f3) false _ ?side1 ?side2 A20.out).mono ?_
                (case side1=>repeat (first|exact (cB_ HR235.out HB.out)|(with_reducible refine Kd.C_alloc ?_ _)|(with_reducible refine Kd.C_drewN ?_ _)|(with_reducible refine Kd.C_drew ?_)))
                (case side2=>exact HC235.out)
                rintro e w43 ⟨rfl,hb⟩;refine ⟨_,rfl,?_⟩;have n0_:=am_ (kB_ (g:=gb226) (o:=.cells #[.int .i8 a0_0,.int .i8 a0_1,.slice (some ad229) l0_2.length c0_2] 25 (0,0)) (by (with_reducible repeat (first|apply kN_|apply kD_|apply kA_));exact BK226.out) hb);have n1_:=am_ (kB_ (g:=gb230) (o:=.cells #[.int .i8 ((rd_T36 l0_2 x26_2).f0),.int .i8 ((rd_T36 l0_2 x26_2).f1),.int .i8 ((rd_T36 l0_2 x26_2).f2),.int .i8 ((rd_T36 l0_2 x26_2).f3)] 36 (0,0)) (by (with_reducible repeat (first|apply kN_|apply kD_|apply kA_));exact BK230.out) hb);have n2_:=am_ (bT_ (by repeat (first|(with_reducible first|exact HB.out|apply bA_|apply bN_|apply bD_|refine bS_ ?_ GE226.out|refine bS_ ?_ GE230.out)|exact HB.out)) hb);clear BK226;clear BK230;clear HB;have BK226:=n0_;have BK230:=n1_;have HB:=n2_;clear n0_ n1_ n2_;(try clear hb);(try clear hb2);(try clear hk);(try clear hi);refine hK.out _ _ ⟨(kC_ BK230.out 0).trans rfl,(kC_ BK230.out 1).trans rfl,(kC_ BK230.out 2).trans rfl,(kC_ BK230.out 3).trans rfl,(kC_ BK226.out 0).trans rfl,(kC_ BK226.out 1).trans rfl,(kC_ BK226.out 2).trans rfl,((HB.out.cell (bl_ w _ hw237_0)).trans hw237_0),((HB.out.cell (bl_ w _ hw237_1)).trans hw237_1),((HB.out.cell (bl_ w _ hw237_2)).trans hw237_2),((HB.out.cell (bl_ w _ hw237_3)).trans hw237_3)⟩ (fun hHeld=>?_);clear hK K;refine norm_ (a':=?_) ?_ ?_;rotate_left
                ·
                 show Act.put _ (some 42) _ = _
                 simp only [Act.put,z1_,z2_,z3_,i64_w,i32_w]
                 rfl
                refine pure_ (i:=12) (N:=some 43) (v:=?_) (a':=?_) (mB_ 28 8191) rfl rfl (any_of HT_.out (by kernel_rfl)) (fun _ _ _ h=>h) (Or.inl ⟨by rfl,?_⟩) ?_ ?_;rotate_left
                ·
                 intro w'
                 go_simp
                 with_reducible rfl
                rotate_left
                ·
                 simp only [Act.put,z1_,z2_,z3_,i64_w,i32_w]
                 rfl
                refine pure_ (i:=13) (N:=some 44) (v:=?_) (a':=?_) (mB_ 28 16383) rfl rfl (any_of HT_.out (by kernel_rfl)) (fun _ _ _ h=>h) (Or.inl ⟨by rfl,?_⟩) ?_ ?_;rotate_left
                ·
                 intro w'
                 go_simp
                 with_reducible rfl
                rotate_left
                ·
                 simp only [Act.put,z1_,z2_,z3_,i64_w,i32_w]
                 rfl
                refine pure_ (i:=14) (N:=some 45) (v:=?_) (a':=?_) (mB_ 28 32767) rfl rfl (any_of HT_.out (by kernel_rfl)) (fun _ _ _ h=>h) (Or.inl ⟨by rfl,?_⟩) ?_ ?_;rotate_left
                ·
                 intro w'
                 go_simp
                 with_reducible rfl
                rotate_left
                ·
                 simp only [Act.put,z1_,z2_,z3_,i64_w,i32_w]
                 rfl
                refine pure_ (i:=15) (N:=some 46) (v:=?_) (a':=?_) (mB_ 28 65535) rfl rfl (any_of HT_.out (by kernel_rfl)) (fun _ _ _ h=>h) (Or.inl ⟨by rfl,?_⟩) ?_ ?_;rotate_left
                ·
                 intro w'
                 go_simp
                 with_reducible rfl
                rotate_left
                ·
                 simp only [Act.put,z1_,z2_,z3_,i64_w,i32_w]
                 rfl
                refine pure_ (i:=16) (N:=some 47) (v:=?_) (a':=?_) (mB_ 28 131071) rfl rfl (any_of HT_.out (by kernel_rfl)) (fun _ _ _ h=>h) (Or.inl ⟨by rfl,?_⟩) ?_ ?_;rotate_left
                ·
                 intro w'
                 go_simp
                 with_reducible rfl
                rotate_left
                ·
                 simp only [Act.put,z1_,z2_,z3_,i64_w,i32_w]
                 rfl
                refine pure_ (i:=17) (N:=some 48) (v:=?_) (a':=?_) (mB_ 28 262143) rfl rfl (any_of HT_.out (by kernel_rfl)) (fun _ _ _ h=>h) (Or.inl ⟨by rfl,?_⟩) ?_ ?_;rotate_left
                ·
                 intro w'
                 go_simp
                 with_reducible rfl
                rotate_left
                ·
                 simp only [Act.put,z1_,z2_,z3_,i64_w,i32_w]
                 rfl
                refine pure_ (i:=19) (N:=some 50) (v:=?_) (a':=?_) (mB_ 28 786431) rfl rfl (any_of HT_.out (by kernel_rfl)) (fun _ _ _ h=>h) (Or.inl ⟨by rfl,?_⟩) ?_ ?_;rotate_left
                ·
                 intro w'
                 go_simp
                 with_reducible rfl
                rotate_left
                ·
                 simp only [Act.put,z1_,z2_,z3_,i64_w,i32_w]
                 rfl
                refine pure_ (i:=20) (N:=some 51) (v:=?_) (a':=?_) (mB_ 28 1835007) rfl rfl (any_of HT_.out (by kernel_rfl)) (fun _ _ _ h=>h) (Or.inl ⟨by rfl,?_⟩) ?_ ?_;rotate_left
                ·
                 intro w'
                 go_simp
                 with_reducible rfl
                rotate_left
                ·
                 simp only [Act.put,z1_,z2_,z3_,i64_w,i32_w]
                 rfl
                refine take_ (i:=18) (N:=some 49) (v:=?_) (a':=?_) (mB_ 28 2097151) rfl rfl (take_ofW HT_.out HW_.out (by kernel_rfl)) (fun _ _ _ h=>h) (Or.inl ⟨by rfl,?_⟩) hHeld ?_ ?_;rotate_left
                ·
                 rintro w' ⟨s0,s1,s2,s3,s4,s5,s6,s7,s8,s9,s10⟩
                 go_simp
                 with_reducible rfl
                rotate_left
                ·
                 simp only [Act.put,z1_,z2_,z3_,i64_w,i32_w]
                 rfl
                refine pure_ (i:=21) (N:=some 52) (v:=?_) (a':=?_) (mB_ 28 4194303) rfl rfl (any_of HT_.out (by kernel_rfl)) (fun _ _ _ h=>h) (Or.inl ⟨by rfl,?_⟩) ?_ ?_;rotate_left
                ·
                 intro w'
                 go_simp
                 with_reducible rfl
                rotate_left
                ·
                 simp only [Act.put,z1_,z2_,z3_,i64_w,i32_w]
                 rfl
                refine take_ (i:=22) (N:=some 53) (v:=?_) (a':=?_) (mB_ 28 8388607) rfl rfl (take_ofW HT_.out HW_.out (by kernel_rfl)) (fun _ _ _ h=>h) (Or.inl ⟨by rfl,?_⟩) hHeld ?_ ?_;rotate_left
                ·
                 rintro w' ⟨s0,s1,s2,s3,s4,s5,s6,s7,s8,s9,s10⟩
                 go_simp
                 with_reducible rfl
                rotate_left
                ·
                 simp only [Act.put,z1_,z2_,z3_,i64_w,i32_w]
                 rfl
                refine take_ (i:=23) (N:=some 54) (v:=?_) (a':=?_) (mB_ 28 16777215) rfl rfl (take_ofW HT_.out HW_.out (by kernel_rfl)) (fun _ _ _ h=>h) (Or.inl ⟨by rfl,?_⟩) hHeld ?_ ?_;rotate_left
                ·
                 rintro w' ⟨s0,s1,s2,s3,s4,s5,s6,s7,s8,s9,s10⟩
                 go_simp
                 with_reducible rfl
                rotate_left
                ·
                 simp only [Act.put,z1_,z2_,z3_,i64_w,i32_w]
                 rfl
                refine one_ (i:=24) (N:=some 55) (mB_ 28 33554431) rfl rfl (one_of HT_.out (by kernel_rfl)) (by decide) (fun K hK=>?_);refine goes_ Tryd.func41 (by kernel_rfl) rfl #[.agg #[.int .i8 ((rd_T36 l0_2 (ji31)).f0),.int .i8 ((rd_T36 l0_2 (ji31)).f1),.int .i8 ((rd_T36 l0_2 (ji31)).f2),.int .i8 ((rd_T36 l0_2 (ji31)).f3)],.agg #[.int .i8 ((rd_T36 l0_2 x26_2).f0),.int .i8 ((rd_T36 l0_2 x26_2).f1),.int .i8 ((rd_T36 l0_2 x26_2).f2),.int .i8 ((rd_T36 l0_2 x26_2).f3)]] (by rfl) rfl rfl (by (try simp only [List.map_toArray,List.map_cons,List.map_nil]);first|done|(simp only [hji31];rfl)|rfl|(simp only [List.length_drop,List.length_take];rfl)) ?_
                with_reducible refine (impl_compareSlabs.calls k2 ((rd_T36 l0_2 (ji31)).f0) ((rd_T36 l0_2 (ji31)).f1) ((rd_T36 l0_2 (ji31)).f2) ((rd_T36 l0_2 (ji31)).f3) ((rd_T36 l0_2 x26_2).f0) ((rd_T36 l0_2 x26_2).f1) ((rd_T36 l0_2 x26_2).f2) ((rd_T36 l0_2 x26_2).f3) t238 _ A34.out).mono ?_
                rintro e w44 ⟨rfl,hb⟩;refine ⟨_,rfl,?_⟩;have n0_:=am_ (kB_ (g:=gb226) (o:=.cells #[.int .i8 a0_0,.int .i8 a0_1,.slice (some ad229) l0_2.length c0_2] 25 (0,0)) (by (with_reducible repeat (first|apply kN_|apply kD_|apply kA_));exact BK226.out) hb);have n1_:=am_ (kB_ (g:=gb230) (o:=.cells #[.int .i8 ((rd_T36 l0_2 x26_2).f0),.int .i8 ((rd_T36 l0_2 x26_2).f1),.int .i8 ((rd_T36 l0_2 x26_2).f2),.int .i8 ((rd_T36 l0_2 x26_2).f3)] 36 (0,0)) (by (with_reducible repeat (first|apply kN_|apply kD_|apply kA_));exact BK230.out) hb);have n2_:=am_ (bT_ (by repeat (first|(with_reducible first|exact HB.out|apply bA_|apply bN_|apply bD_|refine bS_ ?_ GE226.out|refine bS_ ?_ GE230.out)|exact HB.out)) hb);clear BK226;clear BK230;clear HB;have BK226:=n0_;have BK230:=n1_;have HB:=n2_;clear n0_ n1_ n2_;(try clear hb);(try clear hb2);(try clear hk);(try clear hi);refine hK.out _ _ ⟨(kC_ BK230.out 0).trans rfl,(kC_ BK230.out 1).trans rfl,(kC_ BK230.out 2).trans rfl,(kC_ BK230.out 3).trans rfl,(kC_ BK226.out 0).trans rfl,(kC_ BK226.out 1).trans rfl,(kC_ BK226.out 2).trans rfl,((HB.out.cell (bl_ w _ hw237_0)).trans hw237_0),((HB.out.cell (bl_ w _ hw237_1)).trans hw237_1),((HB.out.cell (bl_ w _ hw237_2)).trans hw237_2),((HB.out.cell (bl_ w _ hw237_3)).trans hw237_3)⟩ (fun hHeld=>?_);clear hK K;refine norm_ (a':=?_) ?_ ?_;rotate_left
                ·
                 show Act.put _ (some 55) _ = _
                 simp only [Act.put,z1_,z2_,z3_,i64_w,i32_w]
                 rfl
                refine pure_ (i:=25) (N:=some 56) (v:=?_) (a':=?_) (mB_ 28 67108863) rfl rfl (any_of HT_.out (by kernel_rfl)) (fun _ _ _ h=>h) (Or.inl ⟨by rfl,?_⟩) ?_ ?_;rotate_left
                ·
                 intro w'
                 go_simp
                 with_reducible rfl
                rotate_left
                ·
                 simp only [Act.put,z1_,z2_,z3_,i64_w,i32_w]
                 rfl
                refine pure_ (i:=26) (N:=some 57) (v:=?_) (a':=?_) (mB_ 28 134217727) rfl rfl (any_of HT_.out (by kernel_rfl)) (fun _ _ _ h=>h) (Or.inl ⟨by rfl,?_⟩) ?_ ?_;rotate_left
                ·
                 intro w'
                 go_simp
                 with_reducible rfl
                rotate_left
                ·
                 simp only [Act.put,z1_,z2_,z3_,i64_w,i32_w]
                 rfl
                refine pure_ (i:=27) (N:=some 58) (v:=?_) (a':=?_) (mB_ 28 268435455) rfl rfl (any_of HT_.out (by kernel_rfl)) (fun _ _ _ h=>h) (Or.inl ⟨by rfl,?_⟩) ?_ ?_;rotate_left
                ·
                 intro w'
                 go_simp
                 with_reducible rfl
                rotate_left
                ·
                 simp only [Act.put,z1_,z2_,z3_,i64_w,i32_w]
                 rfl
                refine done_ (done_of HT_.out (by kernel_rfl)) ?_
                try go_wp2
                go_ret
                exact ⟨by first|rfl|(simp [errW_none,errW_some] <;> rfl)|(simp only [← hji31];first|rfl|(simp [errW_none,errW_some] <;> rfl))|(simp [*,errW_none,errW_some] <;> rfl),by repeat (first|(with_reducible first|exact HB.out|apply bA_|apply bN_|apply bD_|refine bS_ ?_ GE226.out|refine bS_ ?_ GE230.out)|exact HB.out)⟩
               ·
                rw [if_neg c35] at H;have c35b0 : decide (0 < t238) = false:=decide_eq_false c35;clear c35;have H':=am_ H;clear H;have p229 : 0≤(x26_2 : Int):=od_ (by first|(with_reducible assumption)|assumption);have q229 : x26_2 < (l0_2.length : Int):=od_ (by first|(with_reducible assumption)|assumption);obtain ⟨ad229,e229,hx229_0,hx229_1,hx229_2,hx229_3⟩:=at_T36 HR0_2.out x26_2 p229 q229
                cases e229
                replace hx229_0:=(HB.out.cell (bl_ w _ hx229_0)).trans hx229_0;replace hx229_1:=(HB.out.cell (bl_ w _ hx229_1)).trans hx229_1;replace hx229_2:=(HB.out.cell (bl_ w _ hx229_2)).trans hx229_2;replace hx229_3:=(HB.out.cell (bl_ w _ hx229_3)).trans hx229_3;replace p229:=eq_true p229;replace q229:=eq_true q229
                try go_wp2_with (first|((with_reducible refine gate_dst (N:=4) rfl ?_);(try (refine gate_guard (by rfl) ?_;dsimp only));refine box_event ?hg (N:=4) ?hd (cs:=#[.int .i8 0,.int .i8 0,.int .i8 0,.int .i8 0]) (t:=36) ?hr ?_;(case hd=>rfl);(case hg=>rfl);(case hr=>first|(go_simp;done)|(go_simp;rfl));intro gb230 hg w45 hbox hb;have n0_:=am_ (kB_ (g:=gb226) (o:=.cells #[.int .i8 a0_0,.int .i8 a0_1,.slice (some ad229) l0_2.length c0_2] 25 (0,0)) (by (with_reducible repeat (first|apply kN_|apply kD_|apply kA_));exact BK226.out) hb);have n1_:=am_ (bT_ (by repeat (first|(with_reducible first|exact HB.out|apply bA_|apply bN_|apply bD_|refine bS_ ?_ GE226.out)|exact HB.out)) hb);have n2_:=am_ (hbox);have n3_:=am_ ((by rw [hg];exact (bZ_ (by repeat (first|(with_reducible first|exact HB.out|apply bA_|apply bN_|apply bD_|refine bS_ ?_ GE226.out)|exact HB.out))) : w.heap.size≤gb230));have n4_:=n3_;have n5_:=am_ ((by rw [hg];exact nL_ (kL_ (g:=gb226) (o:=.cells #[.int .i8 a0_0,.int .i8 a0_1,.slice (some ad229) l0_2.length c0_2] 25 (0,0)) (by (with_reducible repeat (first|apply kN_|apply kD_|apply kA_));exact BK226.out)) : gb226 ≠ gb230));have n6_:=am_ ((by rw [hg];exact nG_ (kL_ (g:=gb226) (o:=.cells #[.int .i8 a0_0,.int .i8 a0_1,.slice (some ad229) l0_2.length c0_2] 25 (0,0)) (by (with_reducible repeat (first|apply kN_|apply kD_|apply kA_));exact BK226.out)) : gb230 ≠ gb226));clear BK226;clear HB;have BK226:=n0_;have HB:=n1_;have BK230:=n2_;have GW230:=n3_;have GE230:=n4_;have NB226_230:=n5_;have NB230_226:=n6_;clear n0_ n1_ n2_ n3_ n4_ n5_ n6_;clear hb hbox hg;have hnb46:=NB230_226.out;have hnc46:=NB226_230.out;have hcz47_0 : w45.cell? ⟨gb230,0,none⟩ = some (.int .i8 0):=(kC_ BK230.out 0).trans rfl;have hcz47_1 : w45.cell? ⟨gb230,1,none⟩ = some (.int .i8 0):=(kC_ BK230.out 1).trans rfl;have hcz47_2 : w45.cell? ⟨gb230,2,none⟩ = some (.int .i8 0):=(kC_ BK230.out 2).trans rfl;have hcz47_3 : w45.cell? ⟨gb230,3,none⟩ = some (.int .i8 0):=(kC_ BK230.out 3).trans rfl;have hfz47_0:=kF_ BK230.out 0;have hfz47_1:=kF_ BK230.out 1;have hfz47_2:=kF_ BK230.out 2;have hfz47_3:=kF_ BK230.out 3))
                have n0_ : Aside0 (((((w45.setCell ⟨gb230,0,none⟩ (.int .i8 ((rd_T36 l0_2 x26_2).f0))).setCell ⟨gb230,1,none⟩ (.int .i8 ((rd_T36 l0_2 x26_2).f1))).setCell ⟨gb230,2,none⟩ (.int .i8 ((rd_T36 l0_2 x26_2).f2))).setCell ⟨gb230,3,none⟩ (.int .i8 ((rd_T36 l0_2 x26_2).f3))).heap[gb226]? = some (.cells #[.int .i8 a0_0,.int .i8 a0_1,.slice (some ad229) l0_2.length c0_2] 25 (0,0))):=⟨by (with_reducible repeat (first|apply kN_|apply kD_|apply kA_));refine kX_ ?_ NB226_230.out _;(with_reducible repeat (first|apply kN_|apply kD_|apply kA_));refine kX_ ?_ NB226_230.out _;(with_reducible repeat (first|apply kN_|apply kD_|apply kA_));refine kX_ ?_ NB226_230.out _;(with_reducible repeat (first|apply kN_|apply kD_|apply kA_));refine kX_ ?_ NB226_230.out _;(with_reducible repeat (first|apply kN_|apply kD_|apply kA_));exact BK226.out⟩
                have n1_ : Aside0 (((((w45.setCell ⟨gb230,0,none⟩ (.int .i8 ((rd_T36 l0_2 x26_2).f0))).setCell ⟨gb230,1,none⟩ (.int .i8 ((rd_T36 l0_2 x26_2).f1))).setCell ⟨gb230,2,none⟩ (.int .i8 ((rd_T36 l0_2 x26_2).f2))).setCell ⟨gb230,3,none⟩ (.int .i8 ((rd_T36 l0_2 x26_2).f3))).heap[gb230]? = some (.cells #[.int .i8 ((rd_T36 l0_2 x26_2).f0),.int .i8 ((rd_T36 l0_2 x26_2).f1),.int .i8 ((rd_T36 l0_2 x26_2).f2),.int .i8 ((rd_T36 l0_2 x26_2).f3)] 36 (0,0))):=⟨by (with_reducible repeat (first|apply kN_|apply kD_|apply kA_));refine blk_put (cs:=#[.int .i8 ((rd_T36 l0_2 x26_2).f0),.int .i8 ((rd_T36 l0_2 x26_2).f1),.int .i8 ((rd_T36 l0_2 x26_2).f2),.int .i8 0]) ?_ 3 _ rfl;(with_reducible repeat (first|apply kN_|apply kD_|apply kA_));refine blk_put (cs:=#[.int .i8 ((rd_T36 l0_2 x26_2).f0),.int .i8 ((rd_T36 l0_2 x26_2).f1),.int .i8 0,.int .i8 0]) ?_ 2 _ rfl;(with_reducible repeat (first|apply kN_|apply kD_|apply kA_));refine blk_put (cs:=#[.int .i8 ((rd_T36 l0_2 x26_2).f0),.int .i8 0,.int .i8 0,.int .i8 0]) ?_ 1 _ rfl;(with_reducible repeat (first|apply kN_|apply kD_|apply kA_));refine blk_put (cs:=#[.int .i8 0,.int .i8 0,.int .i8 0,.int .i8 0]) ?_ 0 _ rfl;(with_reducible repeat (first|apply kN_|apply kD_|apply kA_));exact BK230.out⟩
                have n2_ : Aside0 (Below w.heap.size w ((((w45.setCell ⟨gb230,0,none⟩ (.int .i8 ((rd_T36 l0_2 x26_2).f0))).setCell ⟨gb230,1,none⟩ (.int .i8 ((rd_T36 l0_2 x26_2).f1))).setCell ⟨gb230,2,none⟩ (.int .i8 ((rd_T36 l0_2 x26_2).f2))).setCell ⟨gb230,3,none⟩ (.int .i8 ((rd_T36 l0_2 x26_2).f3)))):=⟨by repeat (first|(with_reducible first|exact HB.out|apply bA_|apply bN_|apply bD_|refine bS_ ?_ GE226.out|refine bS_ ?_ GE230.out)|exact HB.out)⟩
                (try clear BK226);(try clear BK230);(try clear HB);generalize ((((w45.setCell ⟨gb230,0,none⟩ (.int .i8 ((rd_T36 l0_2 x26_2).f0))).setCell ⟨gb230,1,none⟩ (.int .i8 ((rd_T36 l0_2 x26_2).f1))).setCell ⟨gb230,2,none⟩ (.int .i8 ((rd_T36 l0_2 x26_2).f2))).setCell ⟨gb230,3,none⟩ (.int .i8 ((rd_T36 l0_2 x26_2).f3))) = w48 at n0_ n1_ n2_ ⊢;have BK226:=n0_;have BK230:=n1_;have HB:=n2_;clear n0_ n1_ n2_;have n0_:=am_ (kD_ BK226.out);have n1_:=am_ (kD_ BK230.out);have n2_:=am_ (bD_ HB.out);clear BK226;clear BK230;clear HB;have BK226:=n0_;have BK230:=n1_;have HB:=n2_;clear n0_ n1_ n2_;have p237 : 0≤((ji31) : Int):=od_ (by first|(with_reducible assumption)|assumption);have q237 : (ji31) < (l0_2.length : Int):=od_ (by first|(with_reducible assumption)|assumption);obtain ⟨ad237,e237,hx237_0,hx237_1,hx237_2,hx237_3⟩:=at_T36 HR0_2.out (ji31) p237 q237;have hw237_3:=hx237_3;have hw237_2:=hx237_2;have hw237_1:=hx237_1;have hw237_0:=hx237_0;obtain rfl : ad229 = ad237:=(by injection e237)
                replace hx237_0:=(HB.out.cell (bl_ w _ hx237_0)).trans hx237_0;replace hx237_1:=(HB.out.cell (bl_ w _ hx237_1)).trans hx237_1;replace hx237_2:=(HB.out.cell (bl_ w _ hx237_2)).trans hx237_2;replace hx237_3:=(HB.out.cell (bl_ w _ hx237_3)).trans hx237_3;replace p237:=eq_true p237;replace q237:=eq_true q237;refine start_ (n:=28) (S:=fun w'=>w'.cell? ⟨gb230,0,none⟩ = some (.int .i8 ((rd_T36 l0_2 x26_2).f0)) ∧ w'.cell? ⟨gb230,1,none⟩ = some (.int .i8 ((rd_T36 l0_2 x26_2).f1)) ∧ w'.cell? ⟨gb230,2,none⟩ = some (.int .i8 ((rd_T36 l0_2 x26_2).f2)) ∧ w'.cell? ⟨gb230,3,none⟩ = some (.int .i8 ((rd_T36 l0_2 x26_2).f3)) ∧ w'.cell? ⟨gb226,0,none⟩ = some (.int .i8 a0_0) ∧ w'.cell? ⟨gb226,1,none⟩ = some (.int .i8 a0_1) ∧ w'.cell? ⟨gb226,2,none⟩ = some (.slice (some ad229) l0_2.length c0_2) ∧ w'.cell? (ad229.add (((ji31)).toNat * 4)) = some (.int .i8 ((rd_T36 l0_2 (ji31)).f0)) ∧ w'.cell? ⟨(ad229.add (((ji31)).toNat * 4)).block,(ad229.add (((ji31)).toNat * 4)).off + 1,none⟩ = some (.int .i8 ((rd_T36 l0_2 (ji31)).f1)) ∧ w'.cell? ⟨(ad229.add (((ji31)).toNat * 4)).block,(ad229.add (((ji31)).toNat * 4)).off + 2,none⟩ = some (.int .i8 ((rd_T36 l0_2 (ji31)).f2)) ∧ w'.cell? ⟨(ad229.add (((ji31)).toNat * 4)).block,(ad229.add (((ji31)).toNat * 4)).off + 3,none⟩ = some (.int .i8 ((rd_T36 l0_2 (ji31)).f3))) (ds:=[]) (mB_ 28 0) (by kernel_rfl) rfl rfl ⟨(kC_ BK230.out 0).trans rfl,(kC_ BK230.out 1).trans rfl,(kC_ BK230.out 2).trans rfl,(kC_ BK230.out 3).trans rfl,(kC_ BK226.out 0).trans rfl,(kC_ BK226.out 1).trans rfl,(kC_ BK226.out 2).trans rfl,((HB.out.cell (bl_ w _ hw237_0)).trans hw237_0),((HB.out.cell (bl_ w _ hw237_1)).trans hw237_1),((HB.out.cell (bl_ w _ hw237_2)).trans hw237_2),((HB.out.cell (bl_ w _ hw237_3)).trans hw237_3)⟩ (fun hHeld=>?_);refine with_tabW impl_ValidSquare.tab6 impl_ValidSquare.bits6 (fun HT_ HW_=>?_);generalize w48.drew = w49 at BK226 BK230 HB hx237_0 hx237_1 hx237_2 hx237_3 hHeld ⊢;refine take_ (i:=0) (N:=some 31) (v:=?_) (a':=?_) (mB_ 28 1) rfl rfl (take_ofW HT_.out HW_.out (by kernel_rfl)) (fun _ _ _ h=>h) (Or.inl ⟨by rfl,?_⟩) hHeld ?_ ?_;rotate_left
                ·
                 rintro w' ⟨s0,s1,s2,s3,s4,s5,s6,s7,s8,s9,s10⟩
                 go_simp
                 with_reducible rfl
                rotate_left
                ·
                 simp only [Act.put,z1_,z2_,z3_,i64_w,i32_w]
                 rfl
                refine take_ (i:=1) (N:=some 32) (v:=?_) (a':=?_) (mB_ 28 3) rfl rfl (take_ofW HT_.out HW_.out (by kernel_rfl)) (fun _ _ _ h=>h) (Or.inl ⟨by rfl,?_⟩) hHeld ?_ ?_;rotate_left
                ·
                 rintro w' ⟨s0,s1,s2,s3,s4,s5,s6,s7,s8,s9,s10⟩
                 go_simp
                 with_reducible rfl
                rotate_left
                ·
                 simp only [Act.put,z1_,z2_,z3_,i64_w,i32_w]
                 rfl
                refine one_ (i:=2) (N:=some 33) (mB_ 28 7) rfl rfl (one_of HT_.out (by kernel_rfl)) (by decide) (fun K hK=>?_);refine goes_ Tryd.func38 (by kernel_rfl) rfl #[.agg #[.int .i8 ((rd_T36 l0_2 x26_2).f0),.int .i8 ((rd_T36 l0_2 x26_2).f1),.int .i8 ((rd_T36 l0_2 x26_2).f2),.int .i8 ((rd_T36 l0_2 x26_2).f3)],.agg #[.int .i8 a0_0,.int .i8 a0_1,.slice (some ad229) l0_2.length c0_2]] (by rfl) rfl rfl (by (try simp only [List.map_toArray,List.map_cons,List.map_nil]);first|done|rfl|(simp only [List.length_drop,List.length_take];rfl)) ?_
                with_reducible refine (impl_Slab_isIn.calls ((rd_T36 l0_2 x26_2).f0) ((rd_T36 l0_2 x26_2).f1) ((rd_T36 l0_2 x26_2).f2) ((rd_T36 l0_2 x26_2).f3) a0_0 a0_1 _ _ l0_2 true _ ?side1 ?side2 A16.out).mono ?_
                (case side1=>repeat (first|exact (cB_ HR0_2.out HB.out)|(with_reducible refine Kd.C_alloc ?_ _)|(with_reducible refine Kd.C_drewN ?_ _)|(with_reducible refine Kd.C_drew ?_)))
                (case side2=>exact HC0_2.out)
                rintro e w50 ⟨rfl,hb⟩;refine ⟨_,rfl,?_⟩;have n0_:=am_ (kB_ (g:=gb226) (o:=.cells #[.int .i8 a0_0,.int .i8 a0_1,.slice (some ad229) l0_2.length c0_2] 25 (0,0)) (by (with_reducible repeat (first|apply kN_|apply kD_|apply kA_));exact BK226.out) hb);have n1_:=am_ (kB_ (g:=gb230) (o:=.cells #[.int .i8 ((rd_T36 l0_2 x26_2).f0),.int .i8 ((rd_T36 l0_2 x26_2).f1),.int .i8 ((rd_T36 l0_2 x26_2).f2),.int .i8 ((rd_T36 l0_2 x26_2).f3)] 36 (0,0)) (by (with_reducible repeat (first|apply kN_|apply kD_|apply kA_));exact BK230.out) hb);have n2_:=am_ (bT_ (by repeat (first|(with_reducible first|exact HB.out|apply bA_|apply bN_|apply bD_|refine bS_ ?_ GE226.out|refine bS_ ?_ GE230.out)|exact HB.out)) hb);clear BK226;clear BK230;clear HB;have BK226:=n0_;have BK230:=n1_;have HB:=n2_;clear n0_ n1_ n2_;(try clear hb);(try clear hb2);(try clear hk);(try clear hi);have q51 : (x26_2 : Int)≤((l0_2.length : Int) : Int):=od_ (by first|(with_reducible assumption)|assumption);obtain ⟨i051,hi051,_,hsz51,_⟩:=info_parts info36;have hroom51 : l0_2.length≤c0_2:=HC0_2.out;have hC51 : Kd.C k36 _ (some ad229) l0_2.length l0_2:=HR0_2.out;have hcut51:=cut_to (P:=Tryd.prog) 23 36 .i64 Tryd.underlying23 hi051 (some ad229) l0_2.length c0_2 x26_2 (od_ (by first|(with_reducible assumption)|assumption)) q51 hroom51;have hr51:=Kd.C_take (m:=(x26_2 : Int).toNat) hC51 (by omega);have hy51 : y232.length = (x26_2 : Int).toNat:=(by rw [Ny232.out,List.length_take];omega)
                rw [← Ny232.out] at hr51;rw [← hy51] at hcut51;have HR235:=am_ hr51;have HC235:=am_ (show y232.length≤c0_2 from by omega);clear hr51 hC51 hroom51 hi051 hsz51;have KY51:=am_ hy51;clear hy51;replace q51:=eq_true q51;refine hK.out _ _ ⟨(kC_ BK230.out 0).trans rfl,(kC_ BK230.out 1).trans rfl,(kC_ BK230.out 2).trans rfl,(kC_ BK230.out 3).trans rfl,(kC_ BK226.out 0).trans rfl,(kC_ BK226.out 1).trans rfl,(kC_ BK226.out 2).trans rfl,((HB.out.cell (bl_ w _ hw237_0)).trans hw237_0),((HB.out.cell (bl_ w _ hw237_1)).trans hw237_1),((HB.out.cell (bl_ w _ hw237_2)).trans hw237_2),((HB.out.cell (bl_ w _ hw237_3)).trans hw237_3)⟩ (fun hHeld=>?_);clear hK K;refine norm_ (a':=?_) ?_ ?_;rotate_left
                ·
                 show Act.put _ (some 33) _ = _
                 simp only [Act.put,z1_,z2_,z3_,i64_w,i32_w]
                 rfl
                refine pure_ (i:=3) (N:=some 34) (v:=?_) (a':=?_) (mB_ 28 15) rfl rfl (any_of HT_.out (by kernel_rfl)) (fun _ _ _ h=>h) (Or.inl ⟨by rfl,?_⟩) ?_ ?_;rotate_left
                ·
                 intro w'
                 go_simp
                 with_reducible rfl
                rotate_left
                ·
                 simp only [Act.put,z1_,z2_,z3_,i64_w,i32_w]
                 rfl
                refine pure_ (i:=4) (N:=some 35) (v:=?_) (a':=?_) (mB_ 28 31) rfl rfl (any_of HT_.out (by kernel_rfl)) (fun _ _ _ h=>h) (Or.inl ⟨by rfl,?_⟩) ?_ ?_;rotate_left
                ·
                 intro w'
                 go_simp
                 with_reducible rfl
                rotate_left
                ·
                 simp only [Act.put,z1_,z2_,z3_,i64_w,i32_w]
                 rfl
                refine pure_ (i:=5) (N:=some 36) (v:=?_) (a':=?_) (mB_ 28 63) rfl rfl (any_of HT_.out (by kernel_rfl)) (fun _ _ _ h=>h) (Or.inl ⟨by rfl,?_⟩) ?_ ?_;rotate_left
                ·
                 intro w'
                 go_simp
                 with_reducible rfl
                rotate_left
                ·
                 simp only [Act.put,z1_,z2_,z3_,i64_w,i32_w]
                 rfl
                refine pure_ (i:=7) (N:=some 38) (v:=?_) (a':=?_) (mB_ 28 191) rfl rfl (any_of HT_.out (by kernel_rfl)) (fun _ _ _ h=>h) (Or.inl ⟨by rfl,?_⟩) ?_ ?_;rotate_left
                ·
                 intro w'
                 go_simp
                 with_reducible rfl
                rotate_left
                ·
                 simp only [Act.put,z1_,z2_,z3_,i64_w,i32_w]
                 rfl
                refine take_ (i:=6) (N:=some 37) (v:=?_) (a':=?_) (mB_ 28 255) rfl rfl (take_ofW HT_.out HW_.out (by kernel_rfl)) (fun _ _ _ h=>h) (Or.inl ⟨by rfl,?_⟩) hHeld ?_ ?_;rotate_left
                ·
                 rintro w' ⟨s0,s1,s2,s3,s4,s5,s6,s7,s8,s9,s10⟩
                 go_simp
                 with_reducible rfl
                rotate_left
                ·
                 simp only [Act.put,z1_,z2_,z3_,i64_w,i32_w]
                 rfl
                refine pure_ (i:=8) (N:=some 39) (v:=?_) (a':=?_) (mB_ 28 511) rfl rfl (any_of HT_.out (by kernel_rfl)) (fun _ _ _ h=>h) (Or.inl ⟨by rfl,?_⟩) ?_ ?_;rotate_left
                ·
                 intro w'
                 go_simp
                 with_reducible rfl
                rotate_left
                ·
                 simp only [Act.put,z1_,z2_,z3_,i64_w,i32_w]
                 rfl
                refine take_ (i:=9) (N:=some 40) (v:=?_) (a':=?_) (mB_ 28 1023) rfl rfl (take_ofW HT_.out HW_.out (by kernel_rfl)) (fun _ _ _ h=>h) (Or.inl ⟨by rfl,?_⟩) hHeld ?_ ?_;rotate_left
                ·
                 rintro w' ⟨s0,s1,s2,s3,s4,s5,s6,s7,s8,s9,s10⟩
                 go_simp
                 with_reducible rfl
                rotate_left
                ·
                 simp only [Act.put,z1_,z2_,z3_,i64_w,i32_w]
                 rfl
                refine pure_ (i:=10) (N:=some 41) (v:=?_) (a':=?_) (mB_ 28 2047) rfl rfl (any_of HT_.out (by kernel_rfl)) (fun _ _ _ h=>h) (Or.inl ⟨by rfl,?_⟩) ?_ ?_;rotate_left
                ·
                 intro w'
                 go_simp
                 with_reducible rfl
                rotate_left
                ·
                 simp only [Act.put,z1_,z2_,z3_,i64_w,i32_w]
                 rfl
                refine one_ (i:=11) (N:=some 42) (mB_ 28 4095) rfl rfl (one_of HT_.out (by kernel_rfl)) (by decide) (fun K hK=>?_);refine goes_ Tryd.func39 (by kernel_rfl) rfl #[.slice (some ad229) y232.length c0_2,.func (.func 40) #[.agg #[.int .i8 ((rd_T36 l0_2 x26_2).f0),.int .i8 ((rd_T36 l0_2 x26_2).f1),.int .i8 ((rd_T36 l0_2 x26_2).f2),.int .i8 ((rd_T36 l0_2 x26_2).f3)]] #[]] (by rfl) rfl rfl (by (try simp only [List.map_toArray,List.map_cons,List.map_nil]);first|done|rfl|(simp only [List.length_drop,List.length_take];rfl)) ?_
                with_reducible refine (slices_ContainsFunc_impl_Slab_at_impl_Slab_meets.calls k2 _ _ y232 ((rd_T36 l0_2 x26_2).f0) ((rd_T36 l0_2 x26_2).f1) ((rd_T36 l0_2 x26_2).f2) ((rd_T36 l0_2 x26_2).f3) false _ ?side1 ?side2 A20.out).mono ?_
                (case side1=>repeat (first|exact (cB_ HR235.out HB.out)|(with_reducible refine Kd.C_alloc ?_ _)|(with_reducible refine Kd.C_drewN ?_ _)|(with_reducible refine Kd.C_drew ?_)))
                (case side2=>exact HC235.out)
                rintro e w52 ⟨rfl,hb⟩;refine ⟨_,rfl,?_⟩;have n0_:=am_ (kB_ (g:=gb226) (o:=.cells #[.int .i8 a0_0,.int .i8 a0_1,.slice (some ad229) l0_2.length c0_2] 25 (0,0)) (by (with_reducible repeat (first|apply kN_|apply kD_|apply kA_));exact BK226.out) hb);have n1_:=am_ (kB_ (g:=gb230) (o:=.cells #[.int .i8 ((rd_T36 l0_2 x26_2).f0),.int .i8 ((rd_T36 l0_2 x26_2).f1),.int .i8 ((rd_T36 l0_2 x26_2).f2),.int .i8 ((rd_T36 l0_2 x26_2).f3)] 36 (0,0)) (by (with_reducible repeat (first|apply kN_|apply kD_|apply kA_));exact BK230.out) hb);have n2_:=am_ (bT_ (by repeat (first|(with_reducible first|exact HB.out|apply bA_|apply bN_|apply bD_|refine bS_ ?_ GE226.out|refine bS_ ?_ GE230.out)|exact HB.out)) hb);clear BK226;clear BK230;clear HB;have BK226:=n0_;have BK230:=n1_;have HB:=n2_;clear n0_ n1_ n2_;(try clear hb);(try clear hb2);(try clear hk);(try clear hi);refine hK.out _ _ ⟨(kC_ BK230.out 0).trans rfl,(kC_ BK230.out 1).trans rfl,(kC_ BK230.out 2).trans rfl,(kC_ BK230.out 3).trans rfl,(kC_ BK226.out 0).trans rfl,(kC_ BK226.out 1).trans rfl,(kC_ BK226.out 2).trans rfl,((HB.out.cell (bl_ w _ hw237_0)).trans hw237_0),((HB.out.cell (bl_ w _ hw237_1)).trans hw237_1),((HB.out.cell (bl_ w _ hw237_2)).trans hw237_2),((HB.out.cell (bl_ w _ hw237_3)).trans hw237_3)⟩ (fun hHeld=>?_);clear hK K;refine norm_ (a':=?_) ?_ ?_;rotate_left
                ·
                 show Act.put _ (some 42) _ = _
                 simp only [Act.put,z1_,z2_,z3_,i64_w,i32_w]
                 rfl
                refine pure_ (i:=12) (N:=some 43) (v:=?_) (a':=?_) (mB_ 28 8191) rfl rfl (any_of HT_.out (by kernel_rfl)) (fun _ _ _ h=>h) (Or.inl ⟨by rfl,?_⟩) ?_ ?_;rotate_left
                ·
                 intro w'
                 go_simp
                 with_reducible rfl
                rotate_left
                ·
                 simp only [Act.put,z1_,z2_,z3_,i64_w,i32_w]
                 rfl
                refine pure_ (i:=13) (N:=some 44) (v:=?_) (a':=?_) (mB_ 28 16383) rfl rfl (any_of HT_.out (by kernel_rfl)) (fun _ _ _ h=>h) (Or.inl ⟨by rfl,?_⟩) ?_ ?_;rotate_left
                ·
                 intro w'
                 go_simp
                 with_reducible rfl
                rotate_left
                ·
                 simp only [Act.put,z1_,z2_,z3_,i64_w,i32_w]
                 rfl
                refine pure_ (i:=14) (N:=some 45) (v:=?_) (a':=?_) (mB_ 28 32767) rfl rfl (any_of HT_.out (by kernel_rfl)) (fun _ _ _ h=>h) (Or.inl ⟨by rfl,?_⟩) ?_ ?_;rotate_left
                ·
                 intro w'
                 go_simp
                 with_reducible rfl
                rotate_left
                ·
                 simp only [Act.put,z1_,z2_,z3_,i64_w,i32_w]
                 rfl
                refine pure_ (i:=15) (N:=some 46) (v:=?_) (a':=?_) (mB_ 28 65535) rfl rfl (any_of HT_.out (by kernel_rfl)) (fun _ _ _ h=>h) (Or.inl ⟨by rfl,?_⟩) ?_ ?_;rotate_left
                ·
                 intro w'
                 go_simp
                 with_reducible rfl
                rotate_left
                ·
                 simp only [Act.put,z1_,z2_,z3_,i64_w,i32_w]
                 rfl
                refine pure_ (i:=16) (N:=some 47) (v:=?_) (a':=?_) (mB_ 28 131071) rfl rfl (any_of HT_.out (by kernel_rfl)) (fun _ _ _ h=>h) (Or.inl ⟨by rfl,?_⟩) ?_ ?_;rotate_left
                ·
                 intro w'
                 go_simp
                 with_reducible rfl
                rotate_left
                ·
                 simp only [Act.put,z1_,z2_,z3_,i64_w,i32_w]
                 rfl
                refine pure_ (i:=17) (N:=some 48) (v:=?_) (a':=?_) (mB_ 28 262143) rfl rfl (any_of HT_.out (by kernel_rfl)) (fun _ _ _ h=>h) (Or.inl ⟨by rfl,?_⟩) ?_ ?_;rotate_left
                ·
                 intro w'
                 go_simp
                 with_reducible rfl
                rotate_left
                ·
                 simp only [Act.put,z1_,z2_,z3_,i64_w,i32_w]
                 rfl
                refine pure_ (i:=19) (N:=some 50) (v:=?_) (a':=?_) (mB_ 28 786431) rfl rfl (any_of HT_.out (by kernel_rfl)) (fun _ _ _ h=>h) (Or.inl ⟨by rfl,?_⟩) ?_ ?_;rotate_left
                ·
                 intro w'
                 go_simp
                 with_reducible rfl
                rotate_left
                ·
                 simp only [Act.put,z1_,z2_,z3_,i64_w,i32_w]
                 rfl
                refine pure_ (i:=20) (N:=some 51) (v:=?_) (a':=?_) (mB_ 28 1835007) rfl rfl (any_of HT_.out (by kernel_rfl)) (fun _ _ _ h=>h) (Or.inl ⟨by rfl,?_⟩) ?_ ?_;rotate_left
                ·
                 intro w'
                 go_simp
                 with_reducible rfl
                rotate_left
                ·
                 simp only [Act.put,z1_,z2_,z3_,i64_w,i32_w]
                 rfl
                refine take_ (i:=18) (N:=some 49) (v:=?_) (a':=?_) (mB_ 28 2097151) rfl rfl (take_ofW HT_.out HW_.out (by kernel_rfl)) (fun _ _ _ h=>h) (Or.inl ⟨by rfl,?_⟩) hHeld ?_ ?_;rotate_left
                ·
                 rintro w' ⟨s0,s1,s2,s3,s4,s5,s6,s7,s8,s9,s10⟩
                 go_simp
                 with_reducible rfl
                rotate_left
                ·
                 simp only [Act.put,z1_,z2_,z3_,i64_w,i32_w]
                 rfl
                refine pure_ (i:=21) (N:=some 52) (v:=?_) (a':=?_) (mB_ 28 4194303) rfl rfl (any_of HT_.out (by kernel_rfl)) (fun _ _ _ h=>h) (Or.inl ⟨by rfl,?_⟩) ?_ ?_;rotate_left
                ·
                 intro w'
                 go_simp
                 with_reducible rfl
                rotate_left
                ·
                 simp only [Act.put,z1_,z2_,z3_,i64_w,i32_w]
                 rfl
                refine take_ (i:=22) (N:=some 53) (v:=?_) (a':=?_) (mB_ 28 8388607) rfl rfl (take_ofW HT_.out HW_.out (by kernel_rfl)) (fun _ _ _ h=>h) (Or.inl ⟨by rfl,?_⟩) hHeld ?_ ?_;rotate_left
                ·
                 rintro w' ⟨s0,s1,s2,s3,s4,s5,s6,s7,s8,s9,s10⟩
                 go_simp
                 with_reducible rfl
                rotate_left
                ·
                 simp only [Act.put,z1_,z2_,z3_,i64_w,i32_w]
                 rfl
                refine take_ (i:=23) (N:=some 54) (v:=?_) (a':=?_) (mB_ 28 16777215) rfl rfl (take_ofW HT_.out HW_.out (by kernel_rfl)) (fun _ _ _ h=>h) (Or.inl ⟨by rfl,?_⟩) hHeld ?_ ?_;rotate_left
                ·
                 rintro w' ⟨s0,s1,s2,s3,s4,s5,s6,s7,s8,s9,s10⟩
                 go_simp
                 with_reducible rfl
                rotate_left
                ·
                 simp only [Act.put,z1_,z2_,z3_,i64_w,i32_w]
                 rfl
                refine one_ (i:=24) (N:=some 55) (mB_ 28 33554431) rfl rfl (one_of HT_.out (by kernel_rfl)) (by decide) (fun K hK=>?_);refine goes_ Tryd.func41 (by kernel_rfl) rfl #[.agg #[.int .i8 ((rd_T36 l0_2 (ji31)).f0),.int .i8 ((rd_T36 l0_2 (ji31)).f1),.int .i8 ((rd_T36 l0_2 (ji31)).f2),.int .i8 ((rd_T36 l0_2 (ji31)).f3)],.agg #[.int .i8 ((rd_T36 l0_2 x26_2).f0),.int .i8 ((rd_T36 l0_2 x26_2).f1),.int .i8 ((rd_T36 l0_2 x26_2).f2),.int .i8 ((rd_T36 l0_2 x26_2).f3)]] (by rfl) rfl rfl (by (try simp only [List.map_toArray,List.map_cons,List.map_nil]);first|done|(simp only [hji31];rfl)|rfl|(simp only [List.length_drop,List.length_take];rfl)) ?_
                with_reducible refine (impl_compareSlabs.calls k2 ((rd_T36 l0_2 (ji31)).f0) ((rd_T36 l0_2 (ji31)).f1) ((rd_T36 l0_2 (ji31)).f2) ((rd_T36 l0_2 (ji31)).f3) ((rd_T36 l0_2 x26_2).f0) ((rd_T36 l0_2 x26_2).f1) ((rd_T36 l0_2 x26_2).f2) ((rd_T36 l0_2 x26_2).f3) t238 _ A34.out).mono ?_
                rintro e w53 ⟨rfl,hb⟩;refine ⟨_,rfl,?_⟩;have n0_:=am_ (kB_ (g:=gb226) (o:=.cells #[.int .i8 a0_0,.int .i8 a0_1,.slice (some ad229) l0_2.length c0_2] 25 (0,0)) (by (with_reducible repeat (first|apply kN_|apply kD_|apply kA_));exact BK226.out) hb);have n1_:=am_ (kB_ (g:=gb230) (o:=.cells #[.int .i8 ((rd_T36 l0_2 x26_2).f0),.int .i8 ((rd_T36 l0_2 x26_2).f1),.int .i8 ((rd_T36 l0_2 x26_2).f2),.int .i8 ((rd_T36 l0_2 x26_2).f3)] 36 (0,0)) (by (with_reducible repeat (first|apply kN_|apply kD_|apply kA_));exact BK230.out) hb);have n2_:=am_ (bT_ (by repeat (first|(with_reducible first|exact HB.out|apply bA_|apply bN_|apply bD_|refine bS_ ?_ GE226.out|refine bS_ ?_ GE230.out)|exact HB.out)) hb);clear BK226;clear BK230;clear HB;have BK226:=n0_;have BK230:=n1_;have HB:=n2_;clear n0_ n1_ n2_;(try clear hb);(try clear hb2);(try clear hk);(try clear hi);refine hK.out _ _ ⟨(kC_ BK230.out 0).trans rfl,(kC_ BK230.out 1).trans rfl,(kC_ BK230.out 2).trans rfl,(kC_ BK230.out 3).trans rfl,(kC_ BK226.out 0).trans rfl,(kC_ BK226.out 1).trans rfl,(kC_ BK226.out 2).trans rfl,((HB.out.cell (bl_ w _ hw237_0)).trans hw237_0),((HB.out.cell (bl_ w _ hw237_1)).trans hw237_1),((HB.out.cell (bl_ w _ hw237_2)).trans hw237_2),((HB.out.cell (bl_ w _ hw237_3)).trans hw237_3)⟩ (fun hHeld=>?_);clear hK K;refine norm_ (a':=?_) ?_ ?_;rotate_left
                ·
                 show Act.put _ (some 55) _ = _
                 simp only [Act.put,z1_,z2_,z3_,i64_w,i32_w]
                 rfl
                refine pure_ (i:=25) (N:=some 56) (v:=?_) (a':=?_) (mB_ 28 67108863) rfl rfl (any_of HT_.out (by kernel_rfl)) (fun _ _ _ h=>h) (Or.inl ⟨by rfl,?_⟩) ?_ ?_;rotate_left
                ·
                 intro w'
                 go_simp
                 with_reducible rfl
                rotate_left
                ·
                 simp only [Act.put,z1_,z2_,z3_,i64_w,i32_w]
                 rfl
                refine pure_ (i:=26) (N:=some 57) (v:=?_) (a':=?_) (mB_ 28 134217727) rfl rfl (any_of HT_.out (by kernel_rfl)) (fun _ _ _ h=>h) (Or.inl ⟨by rfl,?_⟩) ?_ ?_;rotate_left
                ·
                 intro w'
                 go_simp
                 with_reducible rfl
                rotate_left
                ·
                 simp only [Act.put,z1_,z2_,z3_,i64_w,i32_w]
                 rfl
                refine pure_ (i:=27) (N:=some 58) (v:=?_) (a':=?_) (mB_ 28 268435455) rfl rfl (any_of HT_.out (by kernel_rfl)) (fun _ _ _ h=>h) (Or.inl ⟨by rfl,?_⟩) ?_ ?_;rotate_left
                ·
                 intro w'
                 go_simp
                 with_reducible rfl
                rotate_left
                ·
                 simp only [Act.put,z1_,z2_,z3_,i64_w,i32_w]
                 rfl
                refine done_ (done_of HT_.out (by kernel_rfl)) ?_
                try go_wp2
                go_roundg k2
                case measure=>have:=HJ1.out;have:=HK2.out;omega
                case rel=>exact ⟨(wrap64 (x26_2 + 1)),(by first|rfl|(simp;done)|(simp [*];done)),H',⟨by have:=HJ1.out;have:=HK2.out;omega⟩,⟨by (with_reducible repeat (first|apply kN_|apply kD_|apply kA_));exact BK226.out⟩,⟨by repeat (first|(with_reducible first|exact HB.out|apply bA_|apply bN_|apply bD_|refine bS_ ?_ GE226.out|refine bS_ ?_ GE230.out)|exact HB.out)⟩⟩
              ·
               rw [if_neg c33] at H;exact absurd H (by simp)
             ·
              rw [if_neg c32] at H;exact absurd H (by simp)
            ·
             rw [if_neg c30] at H;have c30b0 : decide (0 < x26_2) = false:=decide_eq_false c30;clear c30;have H':=am_ H;clear H;have p229 : 0≤(x26_2 : Int):=od_ (by first|(with_reducible assumption)|assumption);have q229 : x26_2 < (l0_2.length : Int):=od_ (by first|(with_reducible assumption)|assumption);obtain ⟨ad229,e229,hx229_0,hx229_1,hx229_2,hx229_3⟩:=at_T36 HR0_2.out x26_2 p229 q229
             cases e229
             replace hx229_0:=(HB.out.cell (bl_ w _ hx229_0)).trans hx229_0;replace hx229_1:=(HB.out.cell (bl_ w _ hx229_1)).trans hx229_1;replace hx229_2:=(HB.out.cell (bl_ w _ hx229_2)).trans hx229_2;replace hx229_3:=(HB.out.cell (bl_ w _ hx229_3)).trans hx229_3;replace p229:=eq_true p229;replace q229:=eq_true q229
             try go_wp2_with (first|((with_reducible refine gate_dst (N:=4) rfl ?_);(try (refine gate_guard (by rfl) ?_;dsimp only));refine box_event ?hg (N:=4) ?hd (cs:=#[.int .i8 0,.int .i8 0,.int .i8 0,.int .i8 0]) (t:=36) ?hr ?_;(case hd=>rfl);(case hg=>rfl);(case hr=>first|(go_simp;done)|(go_simp;rfl));intro gb230 hg w54 hbox hb;have n0_:=am_ (kB_ (g:=gb226) (o:=.cells #[.int .i8 a0_0,.int .i8 a0_1,.slice (some ad229) l0_2.length c0_2] 25 (0,0)) (by (with_reducible repeat (first|apply kN_|apply kD_|apply kA_));exact BK226.out) hb);have n1_:=am_ (bT_ (by repeat (first|(with_reducible first|exact HB.out|apply bA_|apply bN_|apply bD_|refine bS_ ?_ GE226.out)|exact HB.out)) hb);have n2_:=am_ (hbox);have n3_:=am_ ((by rw [hg];exact (bZ_ (by repeat (first|(with_reducible first|exact HB.out|apply bA_|apply bN_|apply bD_|refine bS_ ?_ GE226.out)|exact HB.out))) : w.heap.size≤gb230));have n4_:=n3_;have n5_:=am_ ((by rw [hg];exact nL_ (kL_ (g:=gb226) (o:=.cells #[.int .i8 a0_0,.int .i8 a0_1,.slice (some ad229) l0_2.length c0_2] 25 (0,0)) (by (with_reducible repeat (first|apply kN_|apply kD_|apply kA_));exact BK226.out)) : gb226 ≠ gb230));have n6_:=am_ ((by rw [hg];exact nG_ (kL_ (g:=gb226) (o:=.cells #[.int .i8 a0_0,.int .i8 a0_1,.slice (some ad229) l0_2.length c0_2] 25 (0,0)) (by (with_reducible repeat (first|apply kN_|apply kD_|apply kA_));exact BK226.out)) : gb230 ≠ gb226));clear BK226;clear HB;have BK226:=n0_;have HB:=n1_;have BK230:=n2_;have GW230:=n3_;have GE230:=n4_;have NB226_230:=n5_;have NB230_226:=n6_;clear n0_ n1_ n2_ n3_ n4_ n5_ n6_;clear hb hbox hg;have hnb55:=NB230_226.out;have hnc55:=NB226_230.out;have hcz56_0 : w54.cell? ⟨gb230,0,none⟩ = some (.int .i8 0):=(kC_ BK230.out 0).trans rfl;have hcz56_1 : w54.cell? ⟨gb230,1,none⟩ = some (.int .i8 0):=(kC_ BK230.out 1).trans rfl;have hcz56_2 : w54.cell? ⟨gb230,2,none⟩ = some (.int .i8 0):=(kC_ BK230.out 2).trans rfl;have hcz56_3 : w54.cell? ⟨gb230,3,none⟩ = some (.int .i8 0):=(kC_ BK230.out 3).trans rfl;have hfz56_0:=kF_ BK230.out 0;have hfz56_1:=kF_ BK230.out 1;have hfz56_2:=kF_ BK230.out 2;have hfz56_3:=kF_ BK230.out 3))
             have n0_ : Aside0 (((((w54.setCell ⟨gb230,0,none⟩ (.int .i8 ((rd_T36 l0_2 x26_2).f0))).setCell ⟨gb230,1,none⟩ (.int .i8 ((rd_T36 l0_2 x26_2).f1))).setCell ⟨gb230,2,none⟩ (.int .i8 ((rd_T36 l0_2 x26_2).f2))).setCell ⟨gb230,3,none⟩ (.int .i8 ((rd_T36 l0_2 x26_2).f3))).heap[gb226]? = some (.cells #[.int .i8 a0_0,.int .i8 a0_1,.slice (some ad229) l0_2.length c0_2] 25 (0,0))):=⟨by (with_reducible repeat (first|apply kN_|apply kD_|apply kA_));refine kX_ ?_ NB226_230.out _;(with_reducible repeat (first|apply kN_|apply kD_|apply kA_));refine kX_ ?_ NB226_230.out _;(with_reducible repeat (first|apply kN_|apply kD_|apply kA_));refine kX_ ?_ NB226_230.out _;(with_reducible repeat (first|apply kN_|apply kD_|apply kA_));refine kX_ ?_ NB226_230.out _;(with_reducible repeat (first|apply kN_|apply kD_|apply kA_));exact BK226.out⟩
             have n1_ : Aside0 (((((w54.setCell ⟨gb230,0,none⟩ (.int .i8 ((rd_T36 l0_2 x26_2).f0))).setCell ⟨gb230,1,none⟩ (.int .i8 ((rd_T36 l0_2 x26_2).f1))).setCell ⟨gb230,2,none⟩ (.int .i8 ((rd_T36 l0_2 x26_2).f2))).setCell ⟨gb230,3,none⟩ (.int .i8 ((rd_T36 l0_2 x26_2).f3))).heap[gb230]? = some (.cells #[.int .i8 ((rd_T36 l0_2 x26_2).f0),.int .i8 ((rd_T36 l0_2 x26_2).f1),.int .i8 ((rd_T36 l0_2 x26_2).f2),.int .i8 ((rd_T36 l0_2 x26_2).f3)] 36 (0,0))):=⟨by (with_reducible repeat (first|apply kN_|apply kD_|apply kA_));refine blk_put (cs:=#[.int .i8 ((rd_T36 l0_2 x26_2).f0),.int .i8 ((rd_T36 l0_2 x26_2).f1),.int .i8 ((rd_T36 l0_2 x26_2).f2),.int .i8 0]) ?_ 3 _ rfl;(with_reducible repeat (first|apply kN_|apply kD_|apply kA_));refine blk_put (cs:=#[.int .i8 ((rd_T36 l0_2 x26_2).f0),.int .i8 ((rd_T36 l0_2 x26_2).f1),.int .i8 0,.int .i8 0]) ?_ 2 _ rfl;(with_reducible repeat (first|apply kN_|apply kD_|apply kA_));refine blk_put (cs:=#[.int .i8 ((rd_T36 l0_2 x26_2).f0),.int .i8 0,.int .i8 0,.int .i8 0]) ?_ 1 _ rfl;(with_reducible repeat (first|apply kN_|apply kD_|apply kA_));refine blk_put (cs:=#[.int .i8 0,.int .i8 0,.int .i8 0,.int .i8 0]) ?_ 0 _ rfl;(with_reducible repeat (first|apply kN_|apply kD_|apply kA_));exact BK230.out⟩
             have n2_ : Aside0 (Below w.heap.size w ((((w54.setCell ⟨gb230,0,none⟩ (.int .i8 ((rd_T36 l0_2 x26_2).f0))).setCell ⟨gb230,1,none⟩ (.int .i8 ((rd_T36 l0_2 x26_2).f1))).setCell ⟨gb230,2,none⟩ (.int .i8 ((rd_T36 l0_2 x26_2).f2))).setCell ⟨gb230,3,none⟩ (.int .i8 ((rd_T36 l0_2 x26_2).f3)))):=⟨by repeat (first|(with_reducible first|exact HB.out|apply bA_|apply bN_|apply bD_|refine bS_ ?_ GE226.out|refine bS_ ?_ GE230.out)|exact HB.out)⟩
             (try clear BK226);(try clear BK230);(try clear HB);generalize ((((w54.setCell ⟨gb230,0,none⟩ (.int .i8 ((rd_T36 l0_2 x26_2).f0))).setCell ⟨gb230,1,none⟩ (.int .i8 ((rd_T36 l0_2 x26_2).f1))).setCell ⟨gb230,2,none⟩ (.int .i8 ((rd_T36 l0_2 x26_2).f2))).setCell ⟨gb230,3,none⟩ (.int .i8 ((rd_T36 l0_2 x26_2).f3))) = w57 at n0_ n1_ n2_ ⊢;have BK226:=n0_;have BK230:=n1_;have HB:=n2_;clear n0_ n1_ n2_;have n0_:=am_ (kD_ BK226.out);have n1_:=am_ (kD_ BK230.out);have n2_:=am_ (bD_ HB.out);clear BK226;clear BK230;clear HB;have BK226:=n0_;have BK230:=n1_;have HB:=n2_;clear n0_ n1_ n2_;refine start_ (n:=28) (S:=fun w'=>w'.cell? ⟨gb230,0,none⟩ = some (.int .i8 ((rd_T36 l0_2 x26_2).f0)) ∧ w'.cell? ⟨gb230,1,none⟩ = some (.int .i8 ((rd_T36 l0_2 x26_2).f1)) ∧ w'.cell? ⟨gb230,2,none⟩ = some (.int .i8 ((rd_T36 l0_2 x26_2).f2)) ∧ w'.cell? ⟨gb230,3,none⟩ = some (.int .i8 ((rd_T36 l0_2 x26_2).f3)) ∧ w'.cell? ⟨gb226,0,none⟩ = some (.int .i8 a0_0) ∧ w'.cell? ⟨gb226,1,none⟩ = some (.int .i8 a0_1) ∧ w'.cell? ⟨gb226,2,none⟩ = some (.slice (some ad229) l0_2.length c0_2)) (ds:=[]) (mB_ 28 0) (by kernel_rfl) rfl rfl ⟨(kC_ BK230.out 0).trans rfl,(kC_ BK230.out 1).trans rfl,(kC_ BK230.out 2).trans rfl,(kC_ BK230.out 3).trans rfl,(kC_ BK226.out 0).trans rfl,(kC_ BK226.out 1).trans rfl,(kC_ BK226.out 2).trans rfl⟩ (fun hHeld=>?_);refine with_tabW impl_ValidSquare.tab6 impl_ValidSquare.bits6 (fun HT_ HW_=>?_);generalize w57.drew = w58 at BK226 BK230 HB hHeld ⊢;refine take_ (i:=0) (N:=some 31) (v:=?_) (a':=?_) (mB_ 28 1) rfl rfl (take_ofW HT_.out HW_.out (by kernel_rfl)) (fun _ _ _ h=>h) (Or.inl ⟨by rfl,?_⟩) hHeld ?_ ?_;rotate_left
             ·
              rintro w' ⟨s0,s1,s2,s3,s4,s5,s6⟩
              go_simp
              with_reducible rfl
             rotate_left
             ·
              simp only [Act.put,z1_,z2_,z3_,i64_w,i32_w]
              rfl
             refine take_ (i:=1) (N:=some 32) (v:=?_) (a':=?_) (mB_ 28 3) rfl rfl (take_ofW HT_.out HW_.out (by kernel_rfl)) (fun _ _ _ h=>h) (Or.inl ⟨by rfl,?_⟩) hHeld ?_ ?_;rotate_left
             ·
              rintro w' ⟨s0,s1,s2,s3,s4,s5,s6⟩
              go_simp
              with_reducible rfl
             rotate_left
             ·
              simp only [Act.put,z1_,z2_,z3_,i64_w,i32_w]
              rfl
             refine one_ (i:=2) (N:=some 33) (mB_ 28 7) rfl rfl (one_of HT_.out (by kernel_rfl)) (by decide) (fun K hK=>?_);refine goes_ Tryd.func38 (by kernel_rfl) rfl #[.agg #[.int .i8 ((rd_T36 l0_2 x26_2).f0),.int .i8 ((rd_T36 l0_2 x26_2).f1),.int .i8 ((rd_T36 l0_2 x26_2).f2),.int .i8 ((rd_T36 l0_2 x26_2).f3)],.agg #[.int .i8 a0_0,.int .i8 a0_1,.slice (some ad229) l0_2.length c0_2]] (by rfl) rfl rfl (by (try simp only [List.map_toArray,List.map_cons,List.map_nil]);first|done|rfl|(simp only [List.length_drop,List.length_take];rfl)) ?_
             with_reducible refine (impl_Slab_isIn.calls ((rd_T36 l0_2 x26_2).f0) ((rd_T36 l0_2 x26_2).f1) ((rd_T36 l0_2 x26_2).f2) ((rd_T36 l0_2 x26_2).f3) a0_0 a0_1 _ _ l0_2 true _ ?side1 ?side2 A16.out).mono ?_
             (case side1=>repeat (first|exact (cB_ HR0_2.out HB.out)|(with_reducible refine Kd.C_alloc ?_ _)|(with_reducible refine Kd.C_drewN ?_ _)|(with_reducible refine Kd.C_drew ?_)))
             (case side2=>exact HC0_2.out)
             rintro e w59 ⟨rfl,hb⟩;refine ⟨_,rfl,?_⟩;have n0_:=am_ (kB_ (g:=gb226) (o:=.cells #[.int .i8 a0_0,.int .i8 a0_1,.slice (some ad229) l0_2.length c0_2] 25 (0,0)) (by (with_reducible repeat (first|apply kN_|apply kD_|apply kA_));exact BK226.out) hb);have n1_:=am_ (kB_ (g:=gb230) (o:=.cells #[.int .i8 ((rd_T36 l0_2 x26_2).f0),.int .i8 ((rd_T36 l0_2 x26_2).f1),.int .i8 ((rd_T36 l0_2 x26_2).f2),.int .i8 ((rd_T36 l0_2 x26_2).f3)] 36 (0,0)) (by (with_reducible repeat (first|apply kN_|apply kD_|apply kA_));exact BK230.out) hb);have n2_:=am_ (bT_ (by repeat (first|(with_reducible first|exact HB.out|apply bA_|apply bN_|apply bD_|refine bS_ ?_ GE226.out|refine bS_ ?_ GE230.out)|exact HB.out)) hb);clear BK226;clear BK230;clear HB;have BK226:=n0_;have BK230:=n1_;have HB:=n2_;clear n0_ n1_ n2_;(try clear hb);(try clear hb2);(try clear hk);(try clear hi);have q60 : (x26_2 : Int)≤((l0_2.length : Int) : Int):=od_ (by first|(with_reducible assumption)|assumption);obtain ⟨i060,hi060,_,hsz60,_⟩:=info_parts info36;have hroom60 : l0_2.length≤c0_2:=HC0_2.out;have hC60 : Kd.C k36 _ (some ad229) l0_2.length l0_2:=HR0_2.out;have hcut60:=cut_to (P:=Tryd.prog) 23 36 .i64 Tryd.underlying23 hi060 (some ad229) l0_2.length c0_2 x26_2 (od_ (by first|(with_reducible assumption)|assumption)) q60 hroom60;have hr60:=Kd.C_take (m:=(x26_2 : Int).toNat) hC60 (by omega);have hy60 : y232.length = (x26_2 : Int).toNat:=(by rw [Ny232.out,List.length_take];omega)
             rw [← Ny232.out] at hr60;rw [← hy60] at hcut60;have HR235:=am_ hr60;have HC235:=am_ (show y232.length≤c0_2 from by omega);clear hr60 hC60 hroom60 hi060 hsz60;have KY60:=am_ hy60;clear hy60;replace q60:=eq_true q60;refine hK.out _ _ ⟨(kC_ BK230.out 0).trans rfl,(kC_ BK230.out 1).trans rfl,(kC_ BK230.out 2).trans rfl,(kC_ BK230.out 3).trans rfl,(kC_ BK226.out 0).trans rfl,(kC_ BK226.out 1).trans rfl,(kC_ BK226.out 2).trans rfl⟩ (fun hHeld=>?_);clear hK K;refine norm_ (a':=?_) ?_ ?_;rotate_left
             ·
              show Act.put _ (some 33) _ = _
              simp only [Act.put,z1_,z2_,z3_,i64_w,i32_w]
              rfl
             refine pure_ (i:=3) (N:=some 34) (v:=?_) (a':=?_) (mB_ 28 15) rfl rfl (any_of HT_.out (by kernel_rfl)) (fun _ _ _ h=>h) (Or.inl ⟨by rfl,?_⟩) ?_ ?_;rotate_left
             ·
              intro w'
              go_simp
              with_reducible rfl
             rotate_left
             ·
              simp only [Act.put,z1_,z2_,z3_,i64_w,i32_w]
              rfl
             refine pure_ (i:=4) (N:=some 35) (v:=?_) (a':=?_) (mB_ 28 31) rfl rfl (any_of HT_.out (by kernel_rfl)) (fun _ _ _ h=>h) (Or.inl ⟨by rfl,?_⟩) ?_ ?_;rotate_left
             ·
              intro w'
              go_simp
              with_reducible rfl
             rotate_left
             ·
              simp only [Act.put,z1_,z2_,z3_,i64_w,i32_w]
              rfl
             refine pure_ (i:=5) (N:=some 36) (v:=?_) (a':=?_) (mB_ 28 63) rfl rfl (any_of HT_.out (by kernel_rfl)) (fun _ _ _ h=>h) (Or.inl ⟨by rfl,?_⟩) ?_ ?_;rotate_left
             ·
              intro w'
              go_simp
              with_reducible rfl
             rotate_left
             ·
              simp only [Act.put,z1_,z2_,z3_,i64_w,i32_w]
              rfl
             refine pure_ (i:=7) (N:=some 38) (v:=?_) (a':=?_) (mB_ 28 191) rfl rfl (any_of HT_.out (by kernel_rfl)) (fun _ _ _ h=>h) (Or.inl ⟨by rfl,?_⟩) ?_ ?_;rotate_left
             ·
              intro w'
              go_simp
              with_reducible rfl
             rotate_left
             ·
              simp only [Act.put,z1_,z2_,z3_,i64_w,i32_w]
              rfl
             refine take_ (i:=6) (N:=some 37) (v:=?_) (a':=?_) (mB_ 28 255) rfl rfl (take_ofW HT_.out HW_.out (by kernel_rfl)) (fun _ _ _ h=>h) (Or.inl ⟨by rfl,?_⟩) hHeld ?_ ?_;rotate_left
             ·
              rintro w' ⟨s0,s1,s2,s3,s4,s5,s6⟩
              go_simp
              with_reducible rfl
             rotate_left
             ·
              simp only [Act.put,z1_,z2_,z3_,i64_w,i32_w]
              rfl
             refine pure_ (i:=8) (N:=some 39) (v:=?_) (a':=?_) (mB_ 28 511) rfl rfl (any_of HT_.out (by kernel_rfl)) (fun _ _ _ h=>h) (Or.inl ⟨by rfl,?_⟩) ?_ ?_;rotate_left
             ·
              intro w'
              go_simp
              with_reducible rfl
             rotate_left
             ·
              simp only [Act.put,z1_,z2_,z3_,i64_w,i32_w]
              rfl
             refine take_ (i:=9) (N:=some 40) (v:=?_) (a':=?_) (mB_ 28 1023) rfl rfl (take_ofW HT_.out HW_.out (by kernel_rfl)) (fun _ _ _ h=>h) (Or.inl ⟨by rfl,?_⟩) hHeld ?_ ?_;rotate_left
             ·
              rintro w' ⟨s0,s1,s2,s3,s4,s5,s6⟩
              go_simp
              with_reducible rfl
             rotate_left
             ·
              simp only [Act.put,z1_,z2_,z3_,i64_w,i32_w]
              rfl
             refine pure_ (i:=10) (N:=some 41) (v:=?_) (a':=?_) (mB_ 28 2047) rfl rfl (any_of HT_.out (by kernel_rfl)) (fun _ _ _ h=>h) (Or.inl ⟨by rfl,?_⟩) ?_ ?_;rotate_left
             ·
              intro w'
              go_simp
              with_reducible rfl
             rotate_left
             ·
              simp only [Act.put,z1_,z2_,z3_,i64_w,i32_w]
              rfl
             refine one_ (i:=11) (N:=some 42) (mB_ 28 4095) rfl rfl (one_of HT_.out (by kernel_rfl)) (by decide) (fun K hK=>?_);refine goes_ Tryd.func39 (by kernel_rfl) rfl #[.slice (some ad229) y232.length c0_2,.func (.func 40) #[.agg #[.int .i8 ((rd_T36 l0_2 x26_2).f0),.int .i8 ((rd_T36 l0_2 x26_2).f1),.int .i8 ((rd_T36 l0_2 x26_2).f2),.int .i8 ((rd_T36 l0_2 x26_2).f3)]] #[]] (by rfl) rfl rfl (by (try simp only [List.map_toArray,List.map_cons,List.map_nil]);first|done|rfl|(simp only [List.length_drop,List.length_take];rfl)) ?_
             with_reducible refine (slices_ContainsFunc_impl_Slab_at_impl_Slab_meets.calls k2 _ _ y232 ((rd_T36 l0_2 x26_2).f0) ((rd_T36 l0_2 x26_2).f1) ((rd_T36 l0_2 x26_2).f2) ((rd_T36 l0_2 x26_2).f3) false _ ?side1 ?side2 A20.out).mono ?_
             (case side1=>repeat (first|exact (cB_ HR235.out HB.out)|(with_reducible refine Kd.C_alloc ?_ _)|(with_reducible refine Kd.C_drewN ?_ _)|(with_reducible refine Kd.C_drew ?_)))
             (case side2=>exact HC235.out)
             rintro e w61 ⟨rfl,hb⟩;refine ⟨_,rfl,?_⟩;have n0_:=am_ (kB_ (g:=gb226) (o:=.cells #[.int .i8 a0_0,.int .i8 a0_1,.slice (some ad229) l0_2.length c0_2] 25 (0,0)) (by (with_reducible repeat (first|apply kN_|apply kD_|apply kA_));exact BK226.out) hb);have n1_:=am_ (kB_ (g:=gb230) (o:=.cells #[.int .i8 ((rd_T36 l0_2 x26_2).f0),.int .i8 ((rd_T36 l0_2 x26_2).f1),.int .i8 ((rd_T36 l0_2 x26_2).f2),.int .i8 ((rd_T36 l0_2 x26_2).f3)] 36 (0,0)) (by (with_reducible repeat (first|apply kN_|apply kD_|apply kA_));exact BK230.out) hb);have n2_:=am_ (bT_ (by repeat (first|(with_reducible first|exact HB.out|apply bA_|apply bN_|apply bD_|refine bS_ ?_ GE226.out|refine bS_ ?_ GE230.out)|exact HB.out)) hb);clear BK226;clear BK230;clear HB;have BK226:=n0_;have BK230:=n1_;have HB:=n2_;clear n0_ n1_ n2_;(try clear hb);(try clear hb2);(try clear hk);(try clear hi);refine hK.out _ _ ⟨(kC_ BK230.out 0).trans rfl,(kC_ BK230.out 1).trans rfl,(kC_ BK230.out 2).trans rfl,(kC_ BK230.out 3).trans rfl,(kC_ BK226.out 0).trans rfl,(kC_ BK226.out 1).trans rfl,(kC_ BK226.out 2).trans rfl⟩ (fun hHeld=>?_);clear hK K;refine norm_ (a':=?_) ?_ ?_;rotate_left
             ·
              show Act.put _ (some 42) _ = _
              simp only [Act.put,z1_,z2_,z3_,i64_w,i32_w]
              rfl
             refine pure_ (i:=12) (N:=some 43) (v:=?_) (a':=?_) (mB_ 28 8191) rfl rfl (any_of HT_.out (by kernel_rfl)) (fun _ _ _ h=>h) (Or.inl ⟨by rfl,?_⟩) ?_ ?_;rotate_left
             ·
              intro w'
              go_simp
              with_reducible rfl
             rotate_left
             ·
              simp only [Act.put,z1_,z2_,z3_,i64_w,i32_w]
              rfl
             refine pure_ (i:=13) (N:=some 44) (v:=?_) (a':=?_) (mB_ 28 16383) rfl rfl (any_of HT_.out (by kernel_rfl)) (fun _ _ _ h=>h) (Or.inl ⟨by rfl,?_⟩) ?_ ?_;rotate_left
             ·
              intro w'
              go_simp
              with_reducible rfl
             rotate_left
             ·
              simp only [Act.put,z1_,z2_,z3_,i64_w,i32_w]
              rfl
             refine pure_ (i:=14) (N:=some 45) (v:=?_) (a':=?_) (mB_ 28 32767) rfl rfl (any_of HT_.out (by kernel_rfl)) (fun _ _ _ h=>h) (Or.inl ⟨by rfl,?_⟩) ?_ ?_;rotate_left
             ·
              intro w'
              go_simp
              with_reducible rfl
             rotate_left
             ·
              simp only [Act.put,z1_,z2_,z3_,i64_w,i32_w]
              rfl
             refine pure_ (i:=15) (N:=some 46) (v:=?_) (a':=?_) (mB_ 28 65535) rfl rfl (any_of HT_.out (by kernel_rfl)) (fun _ _ _ h=>h) (Or.inl ⟨by rfl,?_⟩) ?_ ?_;rotate_left
             ·
              intro w'
              go_simp
              with_reducible rfl
             rotate_left
             ·
              simp only [Act.put,z1_,z2_,z3_,i64_w,i32_w]
              rfl
             refine pure_ (i:=16) (N:=some 47) (v:=?_) (a':=?_) (mB_ 28 131071) rfl rfl (any_of HT_.out (by kernel_rfl)) (fun _ _ _ h=>h) (Or.inl ⟨by rfl,?_⟩) ?_ ?_;rotate_left
             ·
              intro w'
              go_simp
              with_reducible rfl
             rotate_left
             ·
              simp only [Act.put,z1_,z2_,z3_,i64_w,i32_w]
              rfl
             refine pure_ (i:=17) (N:=some 48) (v:=undef) (a':=?_) (mB_ 28 262143) rfl rfl (any_of HT_.out (by kernel_rfl)) (fun _ _ _ h=>h) (Or.inr ⟨by rfl,rfl⟩) ?_ ?_;rotate_left
             ·
              simp only [Act.put,z1_,z2_,z3_,i64_w,i32_w]
              rfl
             refine pure_ (i:=18) (N:=some 49) (v:=undef) (a':=?_) (mB_ 28 524287) rfl rfl (any_of HT_.out (by kernel_rfl)) (fun _ _ _ h=>h) (Or.inr ⟨by rfl,rfl⟩) ?_ ?_;rotate_left
             ·
              simp only [Act.put,z1_,z2_,z3_,i64_w,i32_w]
              rfl
             refine pure_ (i:=19) (N:=some 50) (v:=undef) (a':=?_) (mB_ 28 1048575) rfl rfl (any_of HT_.out (by kernel_rfl)) (fun _ _ _ h=>h) (Or.inr ⟨by rfl,rfl⟩) ?_ ?_;rotate_left
             ·
              simp only [Act.put,z1_,z2_,z3_,i64_w,i32_w]
              rfl
             refine pure_ (i:=20) (N:=some 51) (v:=undef) (a':=?_) (mB_ 28 2097151) rfl rfl (any_of HT_.out (by kernel_rfl)) (fun _ _ _ h=>h) (Or.inr ⟨by rfl,rfl⟩) ?_ ?_;rotate_left
             ·
              simp only [Act.put,z1_,z2_,z3_,i64_w,i32_w]
              rfl
             refine pure_ (i:=21) (N:=some 52) (v:=undef) (a':=?_) (mB_ 28 4194303) rfl rfl (any_of HT_.out (by kernel_rfl)) (fun _ _ _ h=>h) (Or.inr ⟨by rfl,rfl⟩) ?_ ?_;rotate_left
             ·
              simp only [Act.put,z1_,z2_,z3_,i64_w,i32_w]
              rfl
             refine pure_ (i:=22) (N:=some 53) (v:=undef) (a':=?_) (mB_ 28 8388607) rfl rfl (any_of HT_.out (by kernel_rfl)) (fun _ _ _ h=>h) (Or.inr ⟨by rfl,rfl⟩) ?_ ?_;rotate_left
             ·
              simp only [Act.put,z1_,z2_,z3_,i64_w,i32_w]
              rfl
             refine pure_ (i:=23) (N:=some 54) (v:=undef) (a':=?_) (mB_ 28 16777215) rfl rfl (any_of HT_.out (by kernel_rfl)) (fun _ _ _ h=>h) (Or.inr ⟨by rfl,rfl⟩) ?_ ?_;rotate_left
             ·
              simp only [Act.put,z1_,z2_,z3_,i64_w,i32_w]
              rfl
             refine pure_ (i:=24) (N:=some 55) (v:=undef) (a':=?_) (mB_ 28 33554431) rfl rfl (any_of HT_.out (by kernel_rfl)) (fun _ _ _ h=>h) (Or.inr ⟨by rfl,rfl⟩) ?_ ?_;rotate_left
             ·
              simp only [Act.put,z1_,z2_,z3_,i64_w,i32_w]
              rfl
             refine pure_ (i:=25) (N:=some 56) (v:=undef) (a':=?_) (mB_ 28 67108863) rfl rfl (any_of HT_.out (by kernel_rfl)) (fun _ _ _ h=>h) (Or.inr ⟨by rfl,rfl⟩) ?_ ?_;rotate_left
             ·
              simp only [Act.put,z1_,z2_,z3_,i64_w,i32_w]
              rfl
             refine pure_ (i:=26) (N:=some 57) (v:=?_) (a':=?_) (mB_ 28 134217727) rfl rfl (any_of HT_.out (by kernel_rfl)) (fun _ _ _ h=>h) (Or.inl ⟨by rfl,?_⟩) ?_ ?_;rotate_left
             ·
              intro w'
              go_simp
              with_reducible rfl
             rotate_left
             ·
              simp only [Act.put,z1_,z2_,z3_,i64_w,i32_w]
              rfl
             refine pure_ (i:=27) (N:=some 58) (v:=?_) (a':=?_) (mB_ 28 268435455) rfl rfl (any_of HT_.out (by kernel_rfl)) (fun _ _ _ h=>h) (Or.inl ⟨by rfl,?_⟩) ?_ ?_;rotate_left
             ·
              intro w'
              go_simp
              with_reducible rfl
             rotate_left
             ·
              simp only [Act.put,z1_,z2_,z3_,i64_w,i32_w]
              rfl
             refine done_ (done_of HT_.out (by kernel_rfl)) ?_
             try go_wp2
             go_roundg k2
             case measure=>have:=HJ1.out;have:=HK2.out;omega
             case rel=>exact ⟨(wrap64 (x26_2 + 1)),(by first|rfl|(simp;done)|(simp [*];done)),H',⟨by have:=HJ1.out;have:=HK2.out;omega⟩,⟨by (with_reducible repeat (first|apply kN_|apply kD_|apply kA_));exact BK226.out⟩,⟨by repeat (first|(with_reducible first|exact HB.out|apply bA_|apply bN_|apply bD_|refine bS_ ?_ GE226.out|refine bS_ ?_ GE230.out)|exact HB.out)⟩⟩
          ·
           rw [if_neg c19] at H;exact absurd H (by simp)
         ·
          replace c17:=Bool.eq_false_iff.mpr c17;subst c17;have H1 : (some false) = some r:=by rw [if_neg (show ¬ (false = true) by decide)] at H;exact H
          clear H;have H:=H1;clear H1;obtain rfl:=Option.some.inj H;have p229 : 0≤(x26_2 : Int):=od_ (by first|(with_reducible assumption)|assumption);have q229 : x26_2 < (l0_2.length : Int):=od_ (by first|(with_reducible assumption)|assumption);obtain ⟨ad229,e229,hx229_0,hx229_1,hx229_2,hx229_3⟩:=at_T36 HR0_2.out x26_2 p229 q229
          cases e229
          replace hx229_0:=(HB.out.cell (bl_ w _ hx229_0)).trans hx229_0;replace hx229_1:=(HB.out.cell (bl_ w _ hx229_1)).trans hx229_1;replace hx229_2:=(HB.out.cell (bl_ w _ hx229_2)).trans hx229_2;replace hx229_3:=(HB.out.cell (bl_ w _ hx229_3)).trans hx229_3;replace p229:=eq_true p229;replace q229:=eq_true q229
          try go_wp2_with (first|((with_reducible refine gate_dst (N:=4) rfl ?_);(try (refine gate_guard (by rfl) ?_;dsimp only));refine box_event ?hg (N:=4) ?hd (cs:=#[.int .i8 0,.int .i8 0,.int .i8 0,.int .i8 0]) (t:=36) ?hr ?_;(case hd=>rfl);(case hg=>rfl);(case hr=>first|(go_simp;done)|(go_simp;rfl));intro gb230 hg w62 hbox hb;have n0_:=am_ (kB_ (g:=gb226) (o:=.cells #[.int .i8 a0_0,.int .i8 a0_1,.slice (some ad229) l0_2.length c0_2] 25 (0,0)) (by (with_reducible repeat (first|apply kN_|apply kD_|apply kA_));exact BK226.out) hb);have n1_:=am_ (bT_ (by repeat (first|(with_reducible first|exact HB.out|apply bA_|apply bN_|apply bD_|refine bS_ ?_ GE226.out)|exact HB.out)) hb);have n2_:=am_ (hbox);have n3_:=am_ ((by rw [hg];exact (bZ_ (by repeat (first|(with_reducible first|exact HB.out|apply bA_|apply bN_|apply bD_|refine bS_ ?_ GE226.out)|exact HB.out))) : w.heap.size≤gb230));have n4_:=n3_;have n5_:=am_ ((by rw [hg];exact nL_ (kL_ (g:=gb226) (o:=.cells #[.int .i8 a0_0,.int .i8 a0_1,.slice (some ad229) l0_2.length c0_2] 25 (0,0)) (by (with_reducible repeat (first|apply kN_|apply kD_|apply kA_));exact BK226.out)) : gb226 ≠ gb230));have n6_:=am_ ((by rw [hg];exact nG_ (kL_ (g:=gb226) (o:=.cells #[.int .i8 a0_0,.int .i8 a0_1,.slice (some ad229) l0_2.length c0_2] 25 (0,0)) (by (with_reducible repeat (first|apply kN_|apply kD_|apply kA_));exact BK226.out)) : gb230 ≠ gb226));clear BK226;clear HB;have BK226:=n0_;have HB:=n1_;have BK230:=n2_;have GW230:=n3_;have GE230:=n4_;have NB226_230:=n5_;have NB230_226:=n6_;clear n0_ n1_ n2_ n3_ n4_ n5_ n6_;clear hb hbox hg;have hnb63:=NB230_226.out;have hnc63:=NB226_230.out;have hcz64_0 : w62.cell? ⟨gb230,0,none⟩ = some (.int .i8 0):=(kC_ BK230.out 0).trans rfl;have hcz64_1 : w62.cell? ⟨gb230,1,none⟩ = some (.int .i8 0):=(kC_ BK230.out 1).trans rfl;have hcz64_2 : w62.cell? ⟨gb230,2,none⟩ = some (.int .i8 0):=(kC_ BK230.out 2).trans rfl;have hcz64_3 : w62.cell? ⟨gb230,3,none⟩ = some (.int .i8 0):=(kC_ BK230.out 3).trans rfl;have hfz64_0:=kF_ BK230.out 0;have hfz64_1:=kF_ BK230.out 1;have hfz64_2:=kF_ BK230.out 2;have hfz64_3:=kF_ BK230.out 3))
          have n0_ : Aside0 (((((w62.setCell ⟨gb230,0,none⟩ (.int .i8 ((rd_T36 l0_2 x26_2).f0))).setCell ⟨gb230,1,none⟩ (.int .i8 ((rd_T36 l0_2 x26_2).f1))).setCell ⟨gb230,2,none⟩ (.int .i8 ((rd_T36 l0_2 x26_2).f2))).setCell ⟨gb230,3,none⟩ (.int .i8 ((rd_T36 l0_2 x26_2).f3))).heap[gb226]? = some (.cells #[.int .i8 a0_0,.int .i8 a0_1,.slice (some ad229) l0_2.length c0_2] 25 (0,0))):=⟨by (with_reducible repeat (first|apply kN_|apply kD_|apply kA_));refine kX_ ?_ NB226_230.out _;(with_reducible repeat (first|apply kN_|apply kD_|apply kA_));refine kX_ ?_ NB226_230.out _;(with_reducible repeat (first|apply kN_|apply kD_|apply kA_));refine kX_ ?_ NB226_230.out _;(with_reducible repeat (first|apply kN_|apply kD_|apply kA_));refine kX_ ?_ NB226_230.out _;(with_reducible repeat (first|apply kN_|apply kD_|apply kA_));exact BK226.out⟩
          have n1_ : Aside0 (((((w62.setCell ⟨gb230,0,none⟩ (.int .i8 ((rd_T36 l0_2 x26_2).f0))).setCell ⟨gb230,1,none⟩ (.int .i8 ((rd_T36 l0_2 x26_2).f1))).setCell ⟨gb230,2,none⟩ (.int .i8 ((rd_T36 l0_2 x26_2).f2))).setCell ⟨gb230,3,none⟩ (.int .i8 ((rd_T36 l0_2 x26_2).f3))).heap[gb230]? = some (.cells #[.int .i8 ((rd_T36 l0_2 x26_2).f0),.int .i8 ((rd_T36 l0_2 x26_2).f1),.int .i8 ((rd_T36 l0_2 x26_2).f2),.int .i8 ((rd_T36 l0_2 x26_2).f3)] 36 (0,0))):=⟨by (with_reducible repeat (first|apply kN_|apply kD_|apply kA_));refine blk_put (cs:=#[.int .i8 ((rd_T36 l0_2 x26_2).f0),.int .i8 ((rd_T36 l0_2 x26_2).f1),.int .i8 ((rd_T36 l0_2 x26_2).f2),.int .i8 0]) ?_ 3 _ rfl;(with_reducible repeat (first|apply kN_|apply kD_|apply kA_));refine blk_put (cs:=#[.int .i8 ((rd_T36 l0_2 x26_2).f0),.int .i8 ((rd_T36 l0_2 x26_2).f1),.int .i8 0,.int .i8 0]) ?_ 2 _ rfl;(with_reducible repeat (first|apply kN_|apply kD_|apply kA_));refine blk_put (cs:=#[.int .i8 ((rd_T36 l0_2 x26_2).f0),.int .i8 0,.int .i8 0,.int .i8 0]) ?_ 1 _ rfl;(with_reducible repeat (first|apply kN_|apply kD_|apply kA_));refine blk_put (cs:=#[.int .i8 0,.int .i8 0,.int .i8 0,.int .i8 0]) ?_ 0 _ rfl;(with_reducible repeat (first|apply kN_|apply kD_|apply kA_));exact BK230.out⟩
          have n2_ : Aside0 (Below w.heap.size w ((((w62.setCell ⟨gb230,0,none⟩ (.int .i8 ((rd_T36 l0_2 x26_2).f0))).setCell ⟨gb230,1,none⟩ (.int .i8 ((rd_T36 l0_2 x26_2).f1))).setCell ⟨gb230,2,none⟩ (.int .i8 ((rd_T36 l0_2 x26_2).f2))).setCell ⟨gb230,3,none⟩ (.int .i8 ((rd_T36 l0_2 x26_2).f3)))):=⟨by repeat (first|(with_reducible first|exact HB.out|apply bA_|apply bN_|apply bD_|refine bS_ ?_ GE226.out|refine bS_ ?_ GE230.out)|exact HB.out)⟩
          (try clear BK226);(try clear BK230);(try clear HB);generalize ((((w62.setCell ⟨gb230,0,none⟩ (.int .i8 ((rd_T36 l0_2 x26_2).f0))).setCell ⟨gb230,1,none⟩ (.int .i8 ((rd_T36 l0_2 x26_2).f1))).setCell ⟨gb230,2,none⟩ (.int .i8 ((rd_T36 l0_2 x26_2).f2))).setCell ⟨gb230,3,none⟩ (.int .i8 ((rd_T36 l0_2 x26_2).f3))) = w65 at n0_ n1_ n2_ ⊢;have BK226:=n0_;have BK230:=n1_;have HB:=n2_;clear n0_ n1_ n2_;have n0_:=am_ (kD_ BK226.out);have n1_:=am_ (kD_ BK230.out);have n2_:=am_ (bD_ HB.out);clear BK226;clear BK230;clear HB;have BK226:=n0_;have BK230:=n1_;have HB:=n2_;clear n0_ n1_ n2_;refine start_ (n:=28) (S:=fun w'=>w'.cell? ⟨gb230,0,none⟩ = some (.int .i8 ((rd_T36 l0_2 x26_2).f0)) ∧ w'.cell? ⟨gb230,1,none⟩ = some (.int .i8 ((rd_T36 l0_2 x26_2).f1)) ∧ w'.cell? ⟨gb230,2,none⟩ = some (.int .i8 ((rd_T36 l0_2 x26_2).f2)) ∧ w'.cell? ⟨gb230,3,none⟩ = some (.int .i8 ((rd_T36 l0_2 x26_2).f3)) ∧ w'.cell? ⟨gb226,0,none⟩ = some (.int .i8 a0_0) ∧ w'.cell? ⟨gb226,1,none⟩ = some (.int .i8 a0_1) ∧ w'.cell? ⟨gb226,2,none⟩ = some (.slice (some ad229) l0_2.length c0_2)) (ds:=[]) (mB_ 28 0) (by kernel_rfl) rfl rfl ⟨(kC_ BK230.out 0).trans rfl,(kC_ BK230.out 1).trans rfl,(kC_ BK230.out 2).trans rfl,(kC_ BK230.out 3).trans rfl,(kC_ BK226.out 0).trans rfl,(kC_ BK226.out 1).trans rfl,(kC_ BK226.out 2).trans rfl⟩ (fun hHeld=>?_);refine with_tabW impl_ValidSquare.tab6 impl_ValidSquare.bits6 (fun HT_ HW_=>?_);generalize w65.drew = w66 at BK226 BK230 HB hHeld ⊢;refine take_ (i:=0) (N:=some 31) (v:=?_) (a':=?_) (mB_ 28 1) rfl rfl (take_ofW HT_.out HW_.out (by kernel_rfl)) (fun _ _ _ h=>h) (Or.inl ⟨by rfl,?_⟩) hHeld ?_ ?_;rotate_left
          ·
           rintro w' ⟨s0,s1,s2,s3,s4,s5,s6⟩
           go_simp
           with_reducible rfl
          rotate_left
          ·
           simp only [Act.put,z1_,z2_,z3_,i64_w,i32_w]
           rfl
          refine take_ (i:=1) (N:=some 32) (v:=?_) (a':=?_) (mB_ 28 3) rfl rfl (take_ofW HT_.out HW_.out (by kernel_rfl)) (fun _ _ _ h=>h) (Or.inl ⟨by rfl,?_⟩) hHeld ?_ ?_;rotate_left
          ·
           rintro w' ⟨s0,s1,s2,s3,s4,s5,s6⟩
           go_simp
           with_reducible rfl
          rotate_left
          ·
           simp only [Act.put,z1_,z2_,z3_,i64_w,i32_w]
           rfl
          refine one_ (i:=2) (N:=some 33) (mB_ 28 7) rfl rfl (one_of HT_.out (by kernel_rfl)) (by decide) (fun K hK=>?_);refine goes_ Tryd.func38 (by kernel_rfl) rfl #[.agg #[.int .i8 ((rd_T36 l0_2 x26_2).f0),.int .i8 ((rd_T36 l0_2 x26_2).f1),.int .i8 ((rd_T36 l0_2 x26_2).f2),.int .i8 ((rd_T36 l0_2 x26_2).f3)],.agg #[.int .i8 a0_0,.int .i8 a0_1,.slice (some ad229) l0_2.length c0_2]] (by rfl) rfl rfl (by (try simp only [List.map_toArray,List.map_cons,List.map_nil]);first|done|rfl|(simp only [List.length_drop,List.length_take];rfl)) ?_
          with_reducible refine (impl_Slab_isIn.calls ((rd_T36 l0_2 x26_2).f0) ((rd_T36 l0_2 x26_2).f1) ((rd_T36 l0_2 x26_2).f2) ((rd_T36 l0_2 x26_2).f3) a0_0 a0_1 _ _ l0_2 false _ ?side1 ?side2 A16.out).mono ?_
          (case side1=>repeat (first|exact (cB_ HR0_2.out HB.out)|(with_reducible refine Kd.C_alloc ?_ _)|(with_reducible refine Kd.C_drewN ?_ _)|(with_reducible refine Kd.C_drew ?_)))
          (case side2=>exact HC0_2.out)
          rintro e w67 ⟨rfl,hb⟩;refine ⟨_,rfl,?_⟩;have n0_:=am_ (kB_ (g:=gb226) (o:=.cells #[.int .i8 a0_0,.int .i8 a0_1,.slice (some ad229) l0_2.length c0_2] 25 (0,0)) (by (with_reducible repeat (first|apply kN_|apply kD_|apply kA_));exact BK226.out) hb);have n1_:=am_ (kB_ (g:=gb230) (o:=.cells #[.int .i8 ((rd_T36 l0_2 x26_2).f0),.int .i8 ((rd_T36 l0_2 x26_2).f1),.int .i8 ((rd_T36 l0_2 x26_2).f2),.int .i8 ((rd_T36 l0_2 x26_2).f3)] 36 (0,0)) (by (with_reducible repeat (first|apply kN_|apply kD_|apply kA_));exact BK230.out) hb);have n2_:=am_ (bT_ (by repeat (first|(with_reducible first|exact HB.out|apply bA_|apply bN_|apply bD_|refine bS_ ?_ GE226.out|refine bS_ ?_ GE230.out)|exact HB.out)) hb);clear BK226;clear BK230;clear HB;have BK226:=n0_;have BK230:=n1_;have HB:=n2_;clear n0_ n1_ n2_;(try clear hb);(try clear hb2);(try clear hk);(try clear hi);refine hK.out _ _ ⟨(kC_ BK230.out 0).trans rfl,(kC_ BK230.out 1).trans rfl,(kC_ BK230.out 2).trans rfl,(kC_ BK230.out 3).trans rfl,(kC_ BK226.out 0).trans rfl,(kC_ BK226.out 1).trans rfl,(kC_ BK226.out 2).trans rfl⟩ (fun hHeld=>?_);clear hK K;refine norm_ (a':=?_) ?_ ?_;rotate_left
          ·
           show Act.put _ (some 33) _ = _
           simp only [Act.put,z1_,z2_,z3_,i64_w,i32_w]
           rfl
          refine pure_ (i:=3) (N:=some 34) (v:=?_) (a':=?_) (mB_ 28 15) rfl rfl (any_of HT_.out (by kernel_rfl)) (fun _ _ _ h=>h) (Or.inl ⟨by rfl,?_⟩) ?_ ?_;rotate_left
          ·
           intro w'
           go_simp
           with_reducible rfl
          rotate_left
          ·
           simp only [Act.put,z1_,z2_,z3_,i64_w,i32_w]
           rfl
          refine pure_ (i:=4) (N:=some 35) (v:=?_) (a':=?_) (mB_ 28 31) rfl rfl (any_of HT_.out (by kernel_rfl)) (fun _ _ _ h=>h) (Or.inl ⟨by rfl,?_⟩) ?_ ?_;rotate_left
          ·
           intro w'
           go_simp
           with_reducible rfl
          rotate_left
          ·
           simp only [Act.put,z1_,z2_,z3_,i64_w,i32_w]
           rfl
          refine pure_ (i:=5) (N:=some 36) (v:=undef) (a':=?_) (mB_ 28 63) rfl rfl (any_of HT_.out (by kernel_rfl)) (fun _ _ _ h=>h) (Or.inr ⟨by rfl,rfl⟩) ?_ ?_;rotate_left
          ·
           simp only [Act.put,z1_,z2_,z3_,i64_w,i32_w]
           rfl
          refine pure_ (i:=6) (N:=some 37) (v:=undef) (a':=?_) (mB_ 28 127) rfl rfl (any_of HT_.out (by kernel_rfl)) (fun _ _ _ h=>h) (Or.inr ⟨by rfl,rfl⟩) ?_ ?_;rotate_left
          ·
           simp only [Act.put,z1_,z2_,z3_,i64_w,i32_w]
           rfl
          refine pure_ (i:=7) (N:=some 38) (v:=undef) (a':=?_) (mB_ 28 255) rfl rfl (any_of HT_.out (by kernel_rfl)) (fun _ _ _ h=>h) (Or.inr ⟨by rfl,rfl⟩) ?_ ?_;rotate_left
          ·
           simp only [Act.put,z1_,z2_,z3_,i64_w,i32_w]
           rfl
          refine pure_ (i:=8) (N:=some 39) (v:=undef) (a':=?_) (mB_ 28 511) rfl rfl (any_of HT_.out (by kernel_rfl)) (fun _ _ _ h=>h) (Or.inr ⟨by rfl,rfl⟩) ?_ ?_;rotate_left
          ·
           simp only [Act.put,z1_,z2_,z3_,i64_w,i32_w]
           rfl
          refine pure_ (i:=9) (N:=some 40) (v:=undef) (a':=?_) (mB_ 28 1023) rfl rfl (any_of HT_.out (by kernel_rfl)) (fun _ _ _ h=>h) (Or.inr ⟨by rfl,rfl⟩) ?_ ?_;rotate_left
          ·
           simp only [Act.put,z1_,z2_,z3_,i64_w,i32_w]
           rfl
          refine pure_ (i:=10) (N:=some 41) (v:=undef) (a':=?_) (mB_ 28 2047) rfl rfl (any_of HT_.out (by kernel_rfl)) (fun _ _ _ h=>h) (Or.inr ⟨by rfl,rfl⟩) ?_ ?_;rotate_left
          ·
           simp only [Act.put,z1_,z2_,z3_,i64_w,i32_w]
           rfl
          refine pure_ (i:=11) (N:=some 42) (v:=undef) (a':=?_) (mB_ 28 4095) rfl rfl (any_of HT_.out (by kernel_rfl)) (fun _ _ _ h=>h) (Or.inr ⟨by rfl,rfl⟩) ?_ ?_;rotate_left
          ·
           simp only [Act.put,z1_,z2_,z3_,i64_w,i32_w]
           rfl
          refine pure_ (i:=12) (N:=some 43) (v:=?_) (a':=?_) (mB_ 28 8191) rfl rfl (any_of HT_.out (by kernel_rfl)) (fun _ _ _ h=>h) (Or.inl ⟨by rfl,?_⟩) ?_ ?_;rotate_left
          ·
           intro w'
           go_simp
           with_reducible rfl
          rotate_left
          ·
           simp only [Act.put,z1_,z2_,z3_,i64_w,i32_w]
           rfl
          refine pure_ (i:=13) (N:=some 44) (v:=?_) (a':=?_) (mB_ 28 16383) rfl rfl (any_of HT_.out (by kernel_rfl)) (fun _ _ _ h=>h) (Or.inl ⟨by rfl,?_⟩) ?_ ?_;rotate_left
          ·
           intro w'
           go_simp
           with_reducible rfl
          rotate_left
          ·
           simp only [Act.put,z1_,z2_,z3_,i64_w,i32_w]
           rfl
          refine pure_ (i:=14) (N:=some 45) (v:=undef) (a':=?_) (mB_ 28 32767) rfl rfl (any_of HT_.out (by kernel_rfl)) (fun _ _ _ h=>h) (Or.inr ⟨by rfl,rfl⟩) ?_ ?_;rotate_left
          ·
           simp only [Act.put,z1_,z2_,z3_,i64_w,i32_w]
           rfl
          refine pure_ (i:=15) (N:=some 46) (v:=undef) (a':=?_) (mB_ 28 65535) rfl rfl (any_of HT_.out (by kernel_rfl)) (fun _ _ _ h=>h) (Or.inr ⟨by rfl,rfl⟩) ?_ ?_;rotate_left
          ·
           simp only [Act.put,z1_,z2_,z3_,i64_w,i32_w]
           rfl
          refine pure_ (i:=16) (N:=some 47) (v:=undef) (a':=?_) (mB_ 28 131071) rfl rfl (any_of HT_.out (by kernel_rfl)) (fun _ _ _ h=>h) (Or.inr ⟨by rfl,rfl⟩) ?_ ?_;rotate_left
          ·
           simp only [Act.put,z1_,z2_,z3_,i64_w,i32_w]
           rfl
          refine pure_ (i:=17) (N:=some 48) (v:=undef) (a':=?_) (mB_ 28 262143) rfl rfl (any_of HT_.out (by kernel_rfl)) (fun _ _ _ h=>h) (Or.inr ⟨by rfl,rfl⟩) ?_ ?_;rotate_left
          ·
           simp only [Act.put,z1_,z2_,z3_,i64_w,i32_w]
           rfl
          refine pure_ (i:=18) (N:=some 49) (v:=undef) (a':=?_) (mB_ 28 524287) rfl rfl (any_of HT_.out (by kernel_rfl)) (fun _ _ _ h=>h) (Or.inr ⟨by rfl,rfl⟩) ?_ ?_;rotate_left
          ·
           simp only [Act.put,z1_,z2_,z3_,i64_w,i32_w]
           rfl
          refine pure_ (i:=19) (N:=some 50) (v:=undef) (a':=?_) (mB_ 28 1048575) rfl rfl (any_of HT_.out (by kernel_rfl)) (fun _ _ _ h=>h) (Or.inr ⟨by rfl,rfl⟩) ?_ ?_;rotate_left
          ·
           simp only [Act.put,z1_,z2_,z3_,i64_w,i32_w]
           rfl
          refine pure_ (i:=20) (N:=some 51) (v:=undef) (a':=?_) (mB_ 28 2097151) rfl rfl (any_of HT_.out (by kernel_rfl)) (fun _ _ _ h=>h) (Or.inr ⟨by rfl,rfl⟩) ?_ ?_;rotate_left
          ·
           simp only [Act.put,z1_,z2_,z3_,i64_w,i32_w]
           rfl
          refine pure_ (i:=21) (N:=some 52) (v:=undef) (a':=?_) (mB_ 28 4194303) rfl rfl (any_of HT_.out (by kernel_rfl)) (fun _ _ _ h=>h) (Or.inr ⟨by rfl,rfl⟩) ?_ ?_;rotate_left
          ·
           simp only [Act.put,z1_,z2_,z3_,i64_w,i32_w]
           rfl
          refine pure_ (i:=22) (N:=some 53) (v:=undef) (a':=?_) (mB_ 28 8388607) rfl rfl (any_of HT_.out (by kernel_rfl)) (fun _ _ _ h=>h) (Or.inr ⟨by rfl,rfl⟩) ?_ ?_;rotate_left
          ·
           simp only [Act.put,z1_,z2_,z3_,i64_w,i32_w]
           rfl
          refine pure_ (i:=23) (N:=some 54) (v:=undef) (a':=?_) (mB_ 28 16777215) rfl rfl (any_of HT_.out (by kernel_rfl)) (fun _ _ _ h=>h) (Or.inr ⟨by rfl,rfl⟩) ?_ ?_;rotate_left
          ·
           simp only [Act.put,z1_,z2_,z3_,i64_w,i32_w]
           rfl
          refine pure_ (i:=24) (N:=some 55) (v:=undef) (a':=?_) (mB_ 28 33554431) rfl rfl (any_of HT_.out (by kernel_rfl)) (fun _ _ _ h=>h) (Or.inr ⟨by rfl,rfl⟩) ?_ ?_;rotate_left
          ·
           simp only [Act.put,z1_,z2_,z3_,i64_w,i32_w]
           rfl
          refine pure_ (i:=25) (N:=some 56) (v:=undef) (a':=?_) (mB_ 28 67108863) rfl rfl (any_of HT_.out (by kernel_rfl)) (fun _ _ _ h=>h) (Or.inr ⟨by rfl,rfl⟩) ?_ ?_;rotate_left
          ·
           simp only [Act.put,z1_,z2_,z3_,i64_w,i32_w]
           rfl
          refine pure_ (i:=26) (N:=some 57) (v:=undef) (a':=?_) (mB_ 28 134217727) rfl rfl (any_of HT_.out (by kernel_rfl)) (fun _ _ _ h=>h) (Or.inr ⟨by rfl,rfl⟩) ?_ ?_;rotate_left
          ·
           simp only [Act.put,z1_,z2_,z3_,i64_w,i32_w]
           rfl
          refine pure_ (i:=27) (N:=some 58) (v:=?_) (a':=?_) (mB_ 28 268435455) rfl rfl (any_of HT_.out (by kernel_rfl)) (fun _ _ _ h=>h) (Or.inl ⟨by rfl,?_⟩) ?_ ?_;rotate_left
          ·
           intro w'
           go_simp
           with_reducible rfl
          rotate_left
          ·
           simp only [Act.put,z1_,z2_,z3_,i64_w,i32_w]
           rfl
          refine done_ (done_of HT_.out (by kernel_rfl)) ?_
          try go_wp2
          go_ret
          exact ⟨by first|rfl|(simp [errW_none,errW_some] <;> rfl)|(simp [*,errW_none,errW_some] <;> rfl),by repeat (first|(with_reducible first|exact HB.out|apply bA_|apply bN_|apply bD_|refine bS_ ?_ GE226.out|refine bS_ ?_ GE230.out)|exact HB.out)⟩
        ·
         rw [if_neg c15] at H;exact absurd H (by simp)
       ·
        rw [if_neg c14] at H;exact absurd H (by simp)
      ·
       rw [if_neg c13] at H;have c13b0 : decide (x26_2 < (l0_2.length : Int)) = false:=decide_eq_false c13;clear c13;obtain rfl:=Option.some.inj H
       go_wp2
       go_ret
       exact ⟨by first|rfl|(simp [errW_none,errW_some] <;> rfl)|(simp [*,errW_none,errW_some] <;> rfl),by repeat (first|(with_reducible first|exact HB.out|apply bA_|apply bN_|apply bD_|refine bS_ ?_ GE226.out)|exact HB.out)⟩
end Go.Proofs.YteinapckfhpdkaaDoor.Q
