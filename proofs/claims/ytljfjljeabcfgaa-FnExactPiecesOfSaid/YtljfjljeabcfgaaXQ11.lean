-- Trimmed by a program.
import Derived.Test.YtljfjljeabcfgaaXQ0
import Derived.Test.YtljfjljeabcfgaaXQ9
namespace Go.Proofs.Ytljfjljeabcfgaa.Q
open RowKit YtljfjljeabcfgaaW.PrintWords YtljfjljeabcfgaaW.PrintLast YtljfjljeabcfgaaW.PrintMore
attribute [local go_sem] max2_int min2_int max_two min_two max_three min_three max_four min_four
set_option linter.unusedVariables false
set_option linter.unusedSimpArgs false
def slices_IndexFunc_impl_Slab_at_impl_Slab_meets.l0 : Nat → List (S50) → Int → Int → Int → Int → Int → Int → Option (Int)
 | 0,_,_,_,_,_,_,_=>none
 | k + 1,x0,x7,x8,x2000,x2001,x2002,x2003=>if x8 < x7 then (if 0≤x8 then (if x8 < (x0.length : Int) then ((impl_Slab_meets.f x2000 x2001 x2002 x2003 ((rd_T50 x0 x8).f0) ((rd_T50 x0 x8).f1) ((rd_T50 x0 x8).f2) ((rd_T50 x0 x8).f3)).bind fun t254=>(if t254 = true then (some x8) else (slices_IndexFunc_impl_Slab_at_impl_Slab_meets.l0 k x0 x7 (wrap64 (x8 + 1)) x2000 x2001 x2002 x2003))) else (none)) else (none)) else (some (-1))
def slices_IndexFunc_impl_Slab_at_impl_Slab_meets.f (k : Nat) (l0 : List (S50)) (a1_0 : Int) (a1_1 : Int) (a1_2 : Int) (a1_3 : Int) : Option (Int) := slices_IndexFunc_impl_Slab_at_impl_Slab_meets.l0 k l0 (l0.length : Int) 0 a1_0 a1_1 a1_2 a1_3
theorem slices_IndexFunc_impl_Slab_at_impl_Slab_meets.mono_l : ∀ k, (∀ y0 y1 y2 y3 y4 y5 y6, LeO (slices_IndexFunc_impl_Slab_at_impl_Slab_meets.l0 k y0 y1 y2 y3 y4 y5 y6) (slices_IndexFunc_impl_Slab_at_impl_Slab_meets.l0 (k + 1) y0 y1 y2 y3 y4 y5 y6))
 | 0=>fun _ _ _ _ _ _ _ r h=>by simp [slices_IndexFunc_impl_Slab_at_impl_Slab_meets.l0] at h
 | k + 1=>by
  have ih0:=slices_IndexFunc_impl_Slab_at_impl_Slab_meets.mono_l k
  ·
   intro y0 y1 y2 y3 y4 y5 y6
   unfold slices_IndexFunc_impl_Slab_at_impl_Slab_meets.l0
   repeat' first
   | (with_reducible exact ih0 _ _ _ _ _ _ _)
   | (with_reducible exact LeO.refl _)
   | (with_reducible exact LeO.none _)
   | (with_reducible refine LeO.ite ?_ ?_)
   | (with_reducible refine LeO.bind ?_ (fun _=>?_))
   | exact ih0 _ _ _ _ _ _ _
   | exact LeO.none _
   | refine LeO.ite ?_ ?_
   | refine LeO.bind ?_ (fun _=>?_)
theorem slices_IndexFunc_impl_Slab_at_impl_Slab_meets.mono : ∀ a0 a1 a2 a3 a4 k, LeO (slices_IndexFunc_impl_Slab_at_impl_Slab_meets.f k a0 a1 a2 a3 a4) (slices_IndexFunc_impl_Slab_at_impl_Slab_meets.f (k + 1) a0 a1 a2 a3 a4) := by
 intro a0 a1 a2 a3 a4 k;have ih0:=slices_IndexFunc_impl_Slab_at_impl_Slab_meets.mono_l k
 unfold slices_IndexFunc_impl_Slab_at_impl_Slab_meets.f
 repeat' first
   | (with_reducible exact ih0 _ _ _ _ _ _ _)
   | (with_reducible exact LeO.refl _)
   | (with_reducible exact LeO.none _)
   | (with_reducible refine LeO.ite ?_ ?_)
   | (with_reducible refine LeO.bind ?_ (fun _=>?_))
   | exact ih0 _ _ _ _ _ _ _
   | exact LeO.none _
   | refine LeO.ite ?_ ?_
   | refine LeO.bind ?_ (fun _=>?_)
set_option maxHeartbeats 8000000 in
set_option maxRecDepth 100000 in
theorem slices_IndexFunc_impl_Slab_at_impl_Slab_meets.calls (k : Nat) (A0 : Option Addr) (c0 : Nat) (l0 : List (S50)) (a1_0 : Int) (a1_1 : Int) (a1_2 : Int) (a1_3 : Int) (r : Int) (w : World) (hr0 : Kd.C k50 w A0 l0.length l0) (hc0 : l0.length ≤ c0) (h : slices_IndexFunc_impl_Slab_at_impl_Slab_meets.f k l0 a1_0 a1_1 a1_2 a1_3 = some r) :
  Calls Try.prog 41 #[.slice A0 l0.length c0,.func (.func 31) #[.agg #[.int .i8 a1_0,.int .i8 a1_1,.int .i8 a1_2,.int .i8 a1_3]] #[]] w fun e w'=>e = .returned (.int .i64 r) ∧ Below w.heap.size w w':=by
 have hu50:=Try.underlying50;have HR0:=am_ hr0;have HC0:=am_ hc0;clear hr0 hc0;have HB:=am_ (Below.refl w.heap.size w);have H : (slices_IndexFunc_impl_Slab_at_impl_Slab_meets.l0 k l0 (l0.length : Int) 0 a1_0 a1_1 a1_2 a1_3) = some r:=h;clear h;have H':=am_ H;clear H
 go_enter Try.func41,Try.ntmps41
 go_wp2
 go_loopg [8] k (fun kq v8 w'=>∃ (x8_1 : Int),v8 = .int .i64 x8_1 ∧ Aside0 (slices_IndexFunc_impl_Slab_at_impl_Slab_meets.l0 kq l0 (l0.length : Int) x8_1 a1_0 a1_1 a1_2 a1_3 = some r) ∧ Aside0 (kq≤k) ∧ Aside0 (Below w.heap.size w w'))
 case atStart=>exact ⟨(0),(by first|rfl|(simp;done)|(simp [*];done)),H',⟨Nat.le_refl _⟩,⟨by repeat (first|(with_reducible first|exact HB.out|apply bA_|apply bN_|apply bD_)|exact HB.out)⟩⟩
 case round =>
  clear H';(try clear p2);obtain ⟨x8_1,rfl,HA,HK1,HB⟩:=hrel
  cases gk with
  | zero=>exact absurd HA.out (by simp [slices_IndexFunc_impl_Slab_at_impl_Slab_meets.l0])
  | succ k1 =>
   have H:=HA.out;clear HA;simp only [slices_IndexFunc_impl_Slab_at_impl_Slab_meets.l0] at H
   by_cases c3 : x8_1 < (l0.length : Int)
   ·
    rw [if_pos c3] at H;have c3b0 : decide (x8_1 < (l0.length : Int)) = true:=decide_eq_true c3;clear c3
    by_cases c4 : 0≤x8_1
    ·
     rw [if_pos c4] at H;have c4b0 : decide (0≤x8_1) = true:=decide_eq_true c4;clear c4
     by_cases c5 : x8_1 < (l0.length : Int)
     ·
      rw [if_pos c5] at H;have c5b0 : decide (x8_1 < (l0.length : Int)) = true:=decide_eq_true c5;clear c5;replace H:=Option.bind_eq_some_iff.mp H;obtain ⟨t254,A60,H⟩:=H;replace H : (if t254 = true then (some x8_1) else (slices_IndexFunc_impl_Slab_at_impl_Slab_meets.l0 k1 l0 (l0.length : Int) (wrap64 (x8_1 + 1)) a1_0 a1_1 a1_2 a1_3)) = some r:=H;have A6:=am_ A60;clear A60
      by_cases c7 : t254 = true
      ·
       subst c7;have H1 : (some x8_1) = some r:=by rw [if_pos rfl] at H;exact H
       clear H;have H:=H1;clear H1;obtain rfl:=Option.some.inj H;have p253 : 0≤(x8_1 : Int):=od_ (by first|(with_reducible assumption)|assumption);have q253 : x8_1 < (l0.length : Int):=od_ (by first|(with_reducible assumption)|assumption);obtain ⟨ad253,e253,hx253_0,hx253_1,hx253_2,hx253_3⟩:=at_T50 HR0.out x8_1 p253 q253
       cases e253
       replace hx253_0:=(HB.out.cell (bl_ w _ hx253_0)).trans hx253_0;replace hx253_1:=(HB.out.cell (bl_ w _ hx253_1)).trans hx253_1;replace hx253_2:=(HB.out.cell (bl_ w _ hx253_2)).trans hx253_2;replace hx253_3:=(HB.out.cell (bl_ w _ hx253_3)).trans hx253_3;replace p253:=eq_true p253;replace q253:=eq_true q253
       go_wp2_with (first|(go_at_call 31;(with_reducible refine (impl_Slab_meets.calls a1_0 a1_1 a1_2 a1_3 ((rd_T50 l0 x8_1).f0) ((rd_T50 l0 x8_1).f1) ((rd_T50 l0 x8_1).f2) ((rd_T50 l0 x8_1).f3) true _ A6.out).mono ?_);rintro e w8 ⟨rfl,hb⟩;replace HB:=am_ (bT_ (by repeat (first|(with_reducible first|exact HB.out|apply bA_|apply bN_|apply bD_)|exact HB.out)) hb);(try clear hb hb2 hk hi)))
       go_ret
       exact ⟨by first|rfl|(simp [errW_none,errW_some] <;> rfl)|(simp [*,errW_none,errW_some] <;> rfl),by repeat (first|(with_reducible first|exact HB.out|apply bA_|apply bN_|apply bD_)|exact HB.out)⟩
      ·
       replace c7:=Bool.eq_false_iff.mpr c7;subst c7;have H1 : (slices_IndexFunc_impl_Slab_at_impl_Slab_meets.l0 k1 l0 (l0.length : Int) (wrap64 (x8_1 + 1)) a1_0 a1_1 a1_2 a1_3) = some r:=by rw [if_neg (show ¬ (false = true) by decide)] at H;exact H
       clear H;have H:=H1;clear H1;have H':=am_ H;clear H;have p253 : 0≤(x8_1 : Int):=od_ (by first|(with_reducible assumption)|assumption);have q253 : x8_1 < (l0.length : Int):=od_ (by first|(with_reducible assumption)|assumption);obtain ⟨ad253,e253,hx253_0,hx253_1,hx253_2,hx253_3⟩:=at_T50 HR0.out x8_1 p253 q253
       cases e253
       replace hx253_0:=(HB.out.cell (bl_ w _ hx253_0)).trans hx253_0;replace hx253_1:=(HB.out.cell (bl_ w _ hx253_1)).trans hx253_1;replace hx253_2:=(HB.out.cell (bl_ w _ hx253_2)).trans hx253_2;replace hx253_3:=(HB.out.cell (bl_ w _ hx253_3)).trans hx253_3;replace p253:=eq_true p253;replace q253:=eq_true q253
       go_wp2_with (first|(go_at_call 31;(with_reducible refine (impl_Slab_meets.calls a1_0 a1_1 a1_2 a1_3 ((rd_T50 l0 x8_1).f0) ((rd_T50 l0 x8_1).f1) ((rd_T50 l0 x8_1).f2) ((rd_T50 l0 x8_1).f3) false _ A6.out).mono ?_);rintro e w9 ⟨rfl,hb⟩;replace HB:=am_ (bT_ (by repeat (first|(with_reducible first|exact HB.out|apply bA_|apply bN_|apply bD_)|exact HB.out)) hb);(try clear hb hb2 hk hi)))
       go_roundg k1
       case measure=>have:=HK1.out;omega
       case rel=>exact ⟨(wrap64 (x8_1 + 1)),(by first|rfl|(simp;done)|(simp [*];done)),H',⟨by have:=HK1.out;omega⟩,⟨by repeat (first|(with_reducible first|exact HB.out|apply bA_|apply bN_|apply bD_)|exact HB.out)⟩⟩
     · rw [if_neg c5] at H;exact absurd H (by simp)
    · rw [if_neg c4] at H;exact absurd H (by simp)
   ·
    rw [if_neg c3] at H;have c3b0 : decide (x8_1 < (l0.length : Int)) = false:=decide_eq_false c3;clear c3;obtain rfl:=Option.some.inj H
    go_wp2
    go_ret
    exact ⟨by first|rfl|(simp [errW_none,errW_some] <;> rfl)|(simp [*,errW_none,errW_some] <;> rfl),by repeat (first|(with_reducible first|exact HB.out|apply bA_|apply bN_|apply bD_)|exact HB.out)⟩
def slices_ContainsFunc_impl_Slab_at_impl_Slab_meets.f (k : Nat) (l0 : List (S50)) (a1_0 : Int) (a1_1 : Int) (a1_2 : Int) (a1_3 : Int) : Option (Bool) := (slices_IndexFunc_impl_Slab_at_impl_Slab_meets.f k l0 a1_0 a1_1 a1_2 a1_3).bind fun t255 => (some (decide (t255 ≥ 0)))
theorem slices_ContainsFunc_impl_Slab_at_impl_Slab_meets.mono : ∀ a0 a1 a2 a3 a4 k, LeO (slices_ContainsFunc_impl_Slab_at_impl_Slab_meets.f k a0 a1 a2 a3 a4) (slices_ContainsFunc_impl_Slab_at_impl_Slab_meets.f (k + 1) a0 a1 a2 a3 a4) := by
 intro a0 a1 a2 a3 a4 k
 unfold slices_ContainsFunc_impl_Slab_at_impl_Slab_meets.f
 repeat' first
   | (with_reducible exact slices_IndexFunc_impl_Slab_at_impl_Slab_meets.mono _ _ _ _ _ _)
   | (with_reducible exact LeO.refl _)
   | (with_reducible exact LeO.none _)
   | (with_reducible refine LeO.ite ?_ ?_)
   | (with_reducible refine LeO.bind ?_ (fun _=>?_))
   | exact slices_IndexFunc_impl_Slab_at_impl_Slab_meets.mono _ _ _ _ _ _
   | exact LeO.none _
   | refine LeO.ite ?_ ?_
   | refine LeO.bind ?_ (fun _=>?_)
set_option maxHeartbeats 8000000 in
set_option maxRecDepth 100000 in
theorem slices_ContainsFunc_impl_Slab_at_impl_Slab_meets.calls (k : Nat) (A0 : Option Addr) (c0 : Nat) (l0 : List (S50)) (a1_0 : Int) (a1_1 : Int) (a1_2 : Int) (a1_3 : Int) (r : Bool) (w : World) (hr0 : Kd.C k50 w A0 l0.length l0) (hc0 : l0.length ≤ c0) (h : slices_ContainsFunc_impl_Slab_at_impl_Slab_meets.f k l0 a1_0 a1_1 a1_2 a1_3 = some r) :
  Calls Try.prog 30 #[.slice A0 l0.length c0,.func (.func 31) #[.agg #[.int .i8 a1_0,.int .i8 a1_1,.int .i8 a1_2,.int .i8 a1_3]] #[]] w fun e w'=>e = .returned (.bool r) ∧ Below w.heap.size w w':=by
 have HR0:=am_ hr0;have HC0:=am_ hc0;clear hr0 hc0;have HB:=am_ (Below.refl w.heap.size w);have H : ((slices_IndexFunc_impl_Slab_at_impl_Slab_meets.f k l0 a1_0 a1_1 a1_2 a1_3).bind fun t255=>(some (decide (t255 ≥ 0)))) = some r:=h;clear h;replace H:=Option.bind_eq_some_iff.mp H;obtain ⟨t255,A30,H⟩:=H;replace H : (some (decide (t255 ≥ 0))) = some r:=H;have A3:=am_ A30;clear A30;obtain rfl:=Option.some.inj H
 go_enter Try.func30,Try.ntmps30
 go_wp2_with (first|((with_reducible refine gate_callee (f:=41) rfl ?_);refine goesL_ (some 7) rfl rfl Try.func41 (by kernel_rfl) rfl #[.slice A0 l0.length c0,.func (.func 31) #[.agg #[.int .i8 a1_0,.int .i8 a1_1,.int .i8 a1_2,.int .i8 a1_3]] #[]] rfl (by (try simp only [List.map_toArray,List.map_cons,List.map_nil]);first|done|rfl|(simp only [List.length_drop,List.length_take];rfl)) ?_;(with_reducible refine (slices_IndexFunc_impl_Slab_at_impl_Slab_meets.calls k _ _ l0 a1_0 a1_1 a1_2 a1_3 t255 _ ?side1 ?side2 A3.out).mono ?_);(case side1=>repeat (first|exact HR0.out|(with_reducible refine Kd.C_alloc ?_ _)|(with_reducible refine Kd.C_drewN ?_ _)|(with_reducible refine Kd.C_drew ?_)));(case side2=>exact HC0.out);rintro e w4 ⟨rfl,hb⟩;refine ⟨_,rfl,?_⟩;replace HB:=am_ (bT_ (by repeat (first|(with_reducible first|exact HB.out|apply bA_|apply bN_|apply bD_)|exact HB.out)) hb);(try clear hb hb2 hk hi)))
 go_ret
 exact ⟨by first|rfl|(simp [errW_none,errW_some] <;> rfl)|(simp [*,errW_none,errW_some] <;> rfl),by repeat (first|(with_reducible first|exact HB.out|apply bA_|apply bN_|apply bD_)|exact HB.out)⟩
end Go.Proofs.Ytljfjljeabcfgaa.Q
