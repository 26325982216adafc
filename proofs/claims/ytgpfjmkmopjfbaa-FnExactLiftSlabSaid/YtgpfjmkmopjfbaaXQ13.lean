-- Trimmed by a program.
import Derived.Test.YtgpfjmkmopjfbaaXQ0
import Derived.Test.YtgpfjmkmopjfbaaXQ12
import Derived.Test.YtgpfjmkmopjfbaaXQ9
namespace Go.Proofs.Ytgpfjmkmopjfbaa.Q
open RowKit YtgpfjmkmopjfbaaW.PrintWords YtgpfjmkmopjfbaaW.PrintLast YtgpfjmkmopjfbaaW.PrintMore
attribute [local go_sem] max2_int min2_int max_two min_two max_three min_three max_four min_four
set_option linter.unusedVariables false
set_option linter.unusedSimpArgs false
def impl_unless.f (a0 : Bool) (a1 : Int) : Option (Int) := if a0 = true then (some 0) else (some a1)
set_option maxHeartbeats 8000000 in
set_option maxRecDepth 100000 in
theorem impl_unless.calls (a0 : Bool) (a1 : Int) (r : Int) (w : World) (h : impl_unless.f a0 a1 = some r) :
  Calls Try.prog 42 #[.bool a0,.int .i64 a1] w fun e w'=>e = .returned (.int .i64 r) ∧ Drawn0 w w':=by
 have H : (if a0 = true then (some 0) else (some a1)) = some r:=h;clear h
 by_cases c3 : a0 = true
 ·
  subst c3;have H1 : (some 0) = some r:=by rw [if_pos rfl] at H;exact H
  clear H;have H:=H1;clear H1;obtain rfl:=Option.some.inj H
  go_enter Try.func42,Try.ntmps42
  go_wp2
  go_ret
  exact ⟨by first|rfl|(simp;done)|(simp [*];done),by repeat (first|exact Drawn0.refl _|apply Drawn0.step)⟩
 ·
  replace c3:=Bool.eq_false_iff.mpr c3;subst c3;have H1 : (some a1) = some r:=by rw [if_neg (show ¬ (false = true) by decide)] at H;exact H
  clear H;have H:=H1;clear H1;obtain rfl:=Option.some.inj H
  go_enter Try.func42,Try.ntmps42
  go_wp2
  go_ret
  exact ⟨by first|rfl|(simp;done)|(simp [*];done),by repeat (first|exact Drawn0.refl _|apply Drawn0.step)⟩
def impl_Slab.f (l0 : List (S31)) : Option (Int) := some (l0.length : Int)
set_option maxHeartbeats 8000000 in
set_option maxRecDepth 100000 in
theorem impl_Slab.calls (A0 : Option Addr) (c0 : Nat) (l0 : List (S31)) (r : Int) (w : World) (hr0 : Kd.C k31 w A0 l0.length l0) (hc0 : l0.length ≤ c0) (h : impl_Slab.f l0 = some r) :
  Calls Try.prog 46 #[.slice A0 l0.length c0] w fun e w'=>e = .returned (.int .i64 r) ∧ Drawn0 w w':=by
 have HR0:=am_ hr0;have HC0:=am_ hc0;clear hr0 hc0;have H : (some (l0.length : Int)) = some r:=h;clear h;obtain rfl:=Option.some.inj H
 go_enter Try.func46,Try.ntmps46
 go_wp2
 go_ret
 exact ⟨by first|rfl|(simp;done)|(simp [*];done),by repeat (first|exact Drawn0.refl _|apply Drawn0.step)⟩
def impl_indexCode_1.f (a0 : Int) (l1 : List (S29)) : Option (Bool) := if 0 < (l1.length : Int) then ((impl_Slab.f ((rd_T29 l1 0).f2)).bind fun t237 => ((impl_within.f a0 0 (wrap64 (t237 - 1))).bind fun t238 => (some (!t238)))) else (none)
set_option maxHeartbeats 8000000 in
set_option maxRecDepth 100000 in
theorem impl_indexCode_1.calls (a0 : Int) (A1 : Option Addr) (c1 : Nat) (l1 : List (S29)) (r : Bool) (w : World) (hr1 : Kd.C k29 w A1 l1.length l1) (hc1 : l1.length ≤ c1) (h : impl_indexCode_1.f a0 l1 = some r) :
  Calls Try.prog 44 #[.int .i64 a0,.pointer A1] w fun e w'=>e = .returned (.bool r) ∧ Drawn0 w w':=by
 have HR1:=am_ hr1;have HC1:=am_ hc1;clear hr1 hc1;have H : (if 0 < (l1.length : Int) then ((impl_Slab.f ((rd_T29 l1 0).f2)).bind fun t237=>((impl_within.f a0 0 (wrap64 (t237 - 1))).bind fun t238=>(some (!t238)))) else (none)) = some r:=h;clear h
 by_cases c3 : 0 < (l1.length : Int)
 ·
  rw [if_pos c3] at H;have c3b0 : decide (0 < (l1.length : Int)) = true:=decide_eq_true c3;have c3b1 : decide (0 < l1.length) = true:=decide_eq_true (by omega);clear c3;replace H:=Option.bind_eq_some_iff.mp H;obtain ⟨t237,A40,H⟩:=H;replace H : ((impl_within.f a0 0 (wrap64 (t237 - 1))).bind fun t238=>(some (!t238))) = some r:=H;have A4:=am_ A40;clear A40;replace H:=Option.bind_eq_some_iff.mp H;obtain ⟨t238,A50,H⟩:=H;replace H : (some (!t238)) = some r:=H;have A5:=am_ A50;clear A50;obtain rfl:=Option.some.inj H;have p236 : 0≤(0 : Int):=(by omega)
  have q236 : 0 < (l1.length : Int):=od_ (by first|(with_reducible assumption)|assumption);obtain ⟨ad236,A236_2,c236_2,e236,hx236_0,hx236_1,hx236_2,hl236_2,hi236_2⟩:=at_T29 HR1.out 0 p236 q236
  cases e236
  have qi236 : (0 < l1.length) = True:=eq_true (by omega);(try rw [show ((0 : Int)).toNat = 0 from rfl] at hx236_0);(try rw [show 0 * 3 = 0 from rfl] at hx236_0);(try rw [Addr.add_zero'] at hx236_0);(try rw [show ((0 : Int)).toNat = 0 from rfl] at hx236_1);(try rw [show 0 * 3 = 0 from rfl] at hx236_1);(try rw [Addr.add_zero'] at hx236_1);(try rw [show ((0 : Int)).toNat = 0 from rfl] at hx236_2);(try rw [show 0 * 3 = 0 from rfl] at hx236_2);(try rw [Addr.add_zero'] at hx236_2);have HR236_2:=am_ hi236_2;have HC236_2:=am_ hl236_2;clear hi236_2 hl236_2;replace p236:=eq_true p236;replace q236:=eq_true q236
  go_enter Try.func44,Try.ntmps44
  go_wp2_with (first|((with_reducible refine gate_callee (f:=46) rfl ?_);refine goesL_ (some 7) rfl rfl Try.func46 (by kernel_rfl) rfl #[.slice A236_2 ((rd_T29 l1 0).f2).length c236_2] rfl (by (try simp only [List.map_toArray,List.map_cons,List.map_nil]);first|done|rfl|(simp only [List.length_drop,List.length_take];rfl)) ?_;(with_reducible refine (impl_Slab.calls _ _ ((rd_T29 l1 0).f2) t237 _ ?side1 ?side2 A4.out).mono ?_);(case side1=>repeat (first|exact HR236_2.out|(with_reducible refine Kd.C_alloc ?_ _)|(with_reducible refine Kd.C_drewN ?_ _)|(with_reducible refine Kd.C_drew ?_)));(case side2=>exact HC236_2.out);rintro e w' ⟨rfl,⟨nd,rfl⟩⟩;refine ⟨_,rfl,?_⟩)|((with_reducible refine gate_callee (f:=45) rfl ?_);refine goesL_ (some 9) rfl rfl Try.func45 (by kernel_rfl) rfl #[.int .i64 a0,.int .i64 0,.int .i64 (wrap64 (t237 - 1))] rfl (by (try simp only [List.map_toArray,List.map_cons,List.map_nil]);first|done|rfl|(simp only [List.length_drop,List.length_take];rfl)) ?_;(with_reducible refine (impl_within.calls a0 0 (wrap64 (t237 - 1)) t238 _ A5.out).mono ?_);rintro e w' ⟨rfl,⟨nd,rfl⟩⟩;refine ⟨_,rfl,?_⟩))
  go_ret
  exact ⟨by first|rfl|(simp;done)|(simp [*];done),by repeat (first|exact Drawn0.refl _|apply Drawn0.step)⟩
 · rw [if_neg c3] at H;exact absurd H (by simp)
def slices_IndexFunc_int64_int64_at_impl_indexCode_1.l0 : Nat → List Int → Int → Int → List (S29) → Option (Int)
 | 0,_,_,_,_=>none
 | k + 1,x0,x7,x8,x2000=>if x8 < x7 then (if 0≤x8 then (if x8 < (x0.length : Int) then ((impl_indexCode_1.f (rd x0 x8) x2000).bind fun t240=>(if t240 = true then (some x8) else (slices_IndexFunc_int64_int64_at_impl_indexCode_1.l0 k x0 x7 (wrap64 (x8 + 1)) x2000))) else (none)) else (none)) else (some (-1))
def slices_IndexFunc_int64_int64_at_impl_indexCode_1.f (k : Nat) (l0 : List Int) (l1_0 : List (S29)) : Option (Int) := slices_IndexFunc_int64_int64_at_impl_indexCode_1.l0 k l0 (l0.length : Int) 0 l1_0
theorem slices_IndexFunc_int64_int64_at_impl_indexCode_1.mono_l : ∀ k, (∀ y0 y1 y2 y3, LeO (slices_IndexFunc_int64_int64_at_impl_indexCode_1.l0 k y0 y1 y2 y3) (slices_IndexFunc_int64_int64_at_impl_indexCode_1.l0 (k + 1) y0 y1 y2 y3))
 | 0=>fun _ _ _ _ r h=>by simp [slices_IndexFunc_int64_int64_at_impl_indexCode_1.l0] at h
 | k + 1=>by
  have ih0:=slices_IndexFunc_int64_int64_at_impl_indexCode_1.mono_l k
  ·
   intro y0 y1 y2 y3
   unfold slices_IndexFunc_int64_int64_at_impl_indexCode_1.l0
   repeat' first
   | (with_reducible exact ih0 _ _ _ _)
   | (with_reducible exact LeO.refl _)
   | (with_reducible exact LeO.none _)
   | (with_reducible refine LeO.ite ?_ ?_)
   | (with_reducible refine LeO.bind ?_ (fun _=>?_))
   | exact ih0 _ _ _ _
   | exact LeO.none _
   | refine LeO.ite ?_ ?_
   | refine LeO.bind ?_ (fun _=>?_)
theorem slices_IndexFunc_int64_int64_at_impl_indexCode_1.mono : ∀ a0 a1 k, LeO (slices_IndexFunc_int64_int64_at_impl_indexCode_1.f k a0 a1) (slices_IndexFunc_int64_int64_at_impl_indexCode_1.f (k + 1) a0 a1) := by
 intro a0 a1 k;have ih0:=slices_IndexFunc_int64_int64_at_impl_indexCode_1.mono_l k
 unfold slices_IndexFunc_int64_int64_at_impl_indexCode_1.f
 repeat' first
   | (with_reducible exact ih0 _ _ _ _)
   | (with_reducible exact LeO.refl _)
   | (with_reducible exact LeO.none _)
   | (with_reducible refine LeO.ite ?_ ?_)
   | (with_reducible refine LeO.bind ?_ (fun _=>?_))
   | exact ih0 _ _ _ _
   | exact LeO.none _
   | refine LeO.ite ?_ ?_
   | refine LeO.bind ?_ (fun _=>?_)
set_option maxHeartbeats 8000000 in
set_option maxRecDepth 100000 in
theorem slices_IndexFunc_int64_int64_at_impl_indexCode_1.calls (k : Nat) (A0 : Option Addr) (c0 : Nat) (l0 : List Int) (A1_0 : Option Addr) (c1_0 : Nat) (l1_0 : List (S29)) (r : Int) (w : World) (hr0 : Kd.C (Kd.int .i64) w A0 l0.length l0) (hc0 : l0.length ≤ c0) (hr1_0 : Kd.C k29 w A1_0 l1_0.length l1_0) (hc1_0 : l1_0.length ≤ c1_0) (h : slices_IndexFunc_int64_int64_at_impl_indexCode_1.f k l0 l1_0 = some r) :
  Calls Try.prog 61 #[.slice A0 l0.length c0,.func (.func 44) #[] #[.pointer A1_0]] w fun e w'=>e = .returned (.int .i64 r) ∧ Drawn0 w w':=by
 have HR0:=am_ hr0;have HC0:=am_ hc0;clear hr0 hc0;have HR1_0:=am_ hr1_0;have HC1_0:=am_ hc1_0;clear hr1_0 hc1_0;have H : (slices_IndexFunc_int64_int64_at_impl_indexCode_1.l0 k l0 (l0.length : Int) 0 l1_0) = some r:=h;clear h;have H':=am_ H;clear H
 go_enter Try.func61,Try.ntmps61
 go_wp2
 go_loopg [8] k (fun kq v8 w'=>∃ (x8_1 : Int),v8 = .int .i64 x8_1 ∧ Aside0 (slices_IndexFunc_int64_int64_at_impl_indexCode_1.l0 kq l0 (l0.length : Int) x8_1 l1_0 = some r) ∧ Aside0 (kq≤k) ∧ Drawn0 w w')
 case atStart=>exact ⟨(0),(by first|rfl|(simp;done)|(simp [*];done)),H',⟨Nat.le_refl _⟩,by repeat (first|exact Drawn0.refl _|apply Drawn0.step)⟩
 case round =>
  clear H';(try clear c1);(try clear p2);obtain ⟨x8_1,rfl,HA,HK1,⟨m1,rfl⟩⟩:=hrel
  cases gk with
  | zero=>exact absurd HA.out (by simp [slices_IndexFunc_int64_int64_at_impl_indexCode_1.l0])
  | succ k1 =>
   have H:=HA.out;clear HA;simp only [slices_IndexFunc_int64_int64_at_impl_indexCode_1.l0] at H
   by_cases c3 : x8_1 < (l0.length : Int)
   ·
    rw [if_pos c3] at H;have c3b0 : decide (x8_1 < (l0.length : Int)) = true:=decide_eq_true c3;clear c3
    by_cases c4 : 0≤x8_1
    ·
     rw [if_pos c4] at H;have c4b0 : decide (0≤x8_1) = true:=decide_eq_true c4;clear c4
     by_cases c5 : x8_1 < (l0.length : Int)
     ·
      rw [if_pos c5] at H;have c5b0 : decide (x8_1 < (l0.length : Int)) = true:=decide_eq_true c5;clear c5;replace H:=Option.bind_eq_some_iff.mp H;obtain ⟨t240,A60,H⟩:=H;replace H : (if t240 = true then (some x8_1) else (slices_IndexFunc_int64_int64_at_impl_indexCode_1.l0 k1 l0 (l0.length : Int) (wrap64 (x8_1 + 1)) l1_0)) = some r:=H;have A6:=am_ A60;clear A60
      by_cases c7 : t240 = true
      ·
       subst c7;have H1 : (some x8_1) = some r:=by rw [if_pos rfl] at H;exact H
       clear H;have H:=H1;clear H1;obtain rfl:=Option.some.inj H;have p239 : 0≤(x8_1 : Int):=od_ (by first|(with_reducible assumption)|assumption);have q239 : x8_1 < (l0.length : Int):=od_ (by first|(with_reducible assumption)|assumption);obtain ⟨ad239,e239,hx239_0⟩:=Kd.at_int HR0.out x8_1 p239 q239
       cases e239
       replace p239:=eq_true p239;replace q239:=eq_true q239
       go_wp2_with (first|(go_at_call 44;(with_reducible refine (impl_indexCode_1.calls (rd l0 x8_1) _ c1_0 l1_0 true _ ?side1 ?side2 A6.out).mono ?_);(case side1=>repeat (first|exact HR1_0.out|(with_reducible refine Kd.C_alloc ?_ _)|(with_reducible refine Kd.C_drewN ?_ _)|(with_reducible refine Kd.C_drew ?_)));(case side2=>exact HC1_0.out);rintro e w' ⟨rfl,⟨nd,rfl⟩⟩))
       go_ret
       exact ⟨by first|rfl|(simp;done)|(simp [*];done),by repeat (first|exact Drawn0.refl _|apply Drawn0.step)⟩
      ·
       replace c7:=Bool.eq_false_iff.mpr c7;subst c7;have H1 : (slices_IndexFunc_int64_int64_at_impl_indexCode_1.l0 k1 l0 (l0.length : Int) (wrap64 (x8_1 + 1)) l1_0) = some r:=by rw [if_neg (show ¬ (false = true) by decide)] at H;exact H
       clear H;have H:=H1;clear H1;have H':=am_ H;clear H;have p239 : 0≤(x8_1 : Int):=od_ (by first|(with_reducible assumption)|assumption);have q239 : x8_1 < (l0.length : Int):=od_ (by first|(with_reducible assumption)|assumption);obtain ⟨ad239,e239,hx239_0⟩:=Kd.at_int HR0.out x8_1 p239 q239
       cases e239
       replace p239:=eq_true p239;replace q239:=eq_true q239
       go_wp2_with (first|(go_at_call 44;(with_reducible refine (impl_indexCode_1.calls (rd l0 x8_1) _ c1_0 l1_0 false _ ?side1 ?side2 A6.out).mono ?_);(case side1=>repeat (first|exact HR1_0.out|(with_reducible refine Kd.C_alloc ?_ _)|(with_reducible refine Kd.C_drewN ?_ _)|(with_reducible refine Kd.C_drew ?_)));(case side2=>exact HC1_0.out);rintro e w' ⟨rfl,⟨nd,rfl⟩⟩))
       go_roundg k1
       case measure=>have:=HK1.out;omega
       case rel=>exact ⟨(wrap64 (x8_1 + 1)),(by first|rfl|(simp;done)|(simp [*];done)),H',⟨by have:=HK1.out;omega⟩,by repeat (first|exact Drawn0.refl _|apply Drawn0.step)⟩
     · rw [if_neg c5] at H;exact absurd H (by simp)
    · rw [if_neg c4] at H;exact absurd H (by simp)
   ·
    rw [if_neg c3] at H;have c3b0 : decide (x8_1 < (l0.length : Int)) = false:=decide_eq_false c3;clear c3;obtain rfl:=Option.some.inj H
    go_wp2
    go_ret
    exact ⟨by first|rfl|(simp;done)|(simp [*];done),by repeat (first|exact Drawn0.refl _|apply Drawn0.step)⟩
def slices_ContainsFunc_int64_int64_at_impl_indexCode_1.f (k : Nat) (l0 : List Int) (l1_0 : List (S29)) : Option (Bool) := (slices_IndexFunc_int64_int64_at_impl_indexCode_1.f k l0 l1_0).bind fun t241 => (some (decide (t241 ≥ 0)))
theorem slices_ContainsFunc_int64_int64_at_impl_indexCode_1.mono : ∀ a0 a1 k, LeO (slices_ContainsFunc_int64_int64_at_impl_indexCode_1.f k a0 a1) (slices_ContainsFunc_int64_int64_at_impl_indexCode_1.f (k + 1) a0 a1) := by
 intro a0 a1 k
 unfold slices_ContainsFunc_int64_int64_at_impl_indexCode_1.f
 repeat' first
   | (with_reducible exact slices_IndexFunc_int64_int64_at_impl_indexCode_1.mono _ _ _)
   | (with_reducible exact LeO.refl _)
   | (with_reducible exact LeO.none _)
   | (with_reducible refine LeO.ite ?_ ?_)
   | (with_reducible refine LeO.bind ?_ (fun _=>?_))
   | exact slices_IndexFunc_int64_int64_at_impl_indexCode_1.mono _ _ _
   | exact LeO.none _
   | refine LeO.ite ?_ ?_
   | refine LeO.bind ?_ (fun _=>?_)
set_option maxHeartbeats 8000000 in
set_option maxRecDepth 100000 in
theorem slices_ContainsFunc_int64_int64_at_impl_indexCode_1.calls (k : Nat) (A0 : Option Addr) (c0 : Nat) (l0 : List Int) (A1_0 : Option Addr) (c1_0 : Nat) (l1_0 : List (S29)) (r : Bool) (w : World) (hr0 : Kd.C (Kd.int .i64) w A0 l0.length l0) (hc0 : l0.length ≤ c0) (hr1_0 : Kd.C k29 w A1_0 l1_0.length l1_0) (hc1_0 : l1_0.length ≤ c1_0) (h : slices_ContainsFunc_int64_int64_at_impl_indexCode_1.f k l0 l1_0 = some r) :
  Calls Try.prog 43 #[.slice A0 l0.length c0,.func (.func 44) #[] #[.pointer A1_0]] w fun e w'=>e = .returned (.bool r) ∧ Drawn0 w w':=by
 have HR0:=am_ hr0;have HC0:=am_ hc0;clear hr0 hc0;have HR1_0:=am_ hr1_0;have HC1_0:=am_ hc1_0;clear hr1_0 hc1_0;have H : ((slices_IndexFunc_int64_int64_at_impl_indexCode_1.f k l0 l1_0).bind fun t241=>(some (decide (t241 ≥ 0)))) = some r:=h;clear h;replace H:=Option.bind_eq_some_iff.mp H;obtain ⟨t241,A30,H⟩:=H;replace H : (some (decide (t241 ≥ 0))) = some r:=H;have A3:=am_ A30;clear A30;obtain rfl:=Option.some.inj H
 go_enter Try.func43,Try.ntmps43
 go_wp2_with (first|((with_reducible refine gate_callee (f:=61) rfl ?_);refine goesL_ (some 7) rfl rfl Try.func61 (by kernel_rfl) rfl #[.slice A0 l0.length c0,.func (.func 44) #[] #[.pointer A1_0]] rfl (by (try simp only [List.map_toArray,List.map_cons,List.map_nil]);first|done|rfl|(simp only [List.length_drop,List.length_take];rfl)) ?_;(with_reducible refine (slices_IndexFunc_int64_int64_at_impl_indexCode_1.calls k _ _ l0 _ c1_0 l1_0 t241 _ ?side1 ?side2 ?side3 ?side4 A3.out).mono ?_);(case side1=>repeat (first|exact HR0.out|(with_reducible refine Kd.C_alloc ?_ _)|(with_reducible refine Kd.C_drewN ?_ _)|(with_reducible refine Kd.C_drew ?_)));(case side2=>exact HC0.out);(case side3=>repeat (first|exact HR1_0.out|(with_reducible refine Kd.C_alloc ?_ _)|(with_reducible refine Kd.C_drewN ?_ _)|(with_reducible refine Kd.C_drew ?_)));(case side4=>exact HC1_0.out);rintro e w' ⟨rfl,⟨nd,rfl⟩⟩;refine ⟨_,rfl,?_⟩))
 go_ret
 exact ⟨by first|rfl|(simp;done)|(simp [*];done),by repeat (first|exact Drawn0.refl _|apply Drawn0.step)⟩
def impl_indexCode.f (k : Nat) (a0_0 : Int) (a0_1 : Int) (l0_2 : List (S31)) (l1 : List Int) : Option (Int) := (impl_ValidSquare.f k a0_0 a0_1 l0_2).bind fun t243 => (if t243 = true then ((slices_ContainsFunc_int64_int64_at_impl_indexCode_1.f k l1 [(⟨a0_0, a0_1, l0_2⟩ : S29)]).bind fun t244 => ((impl_unless.f (!t244) 2).bind fun t245 => (some t245))) else (some 1))
theorem impl_indexCode.mono : ∀ a0 a1 a2 a3 k, LeO (impl_indexCode.f k a0 a1 a2 a3) (impl_indexCode.f (k + 1) a0 a1 a2 a3) := by
 intro a0 a1 a2 a3 k
 unfold impl_indexCode.f
 repeat' first
   | (with_reducible exact impl_ValidSquare.mono _ _ _ _)
   | (with_reducible exact slices_ContainsFunc_int64_int64_at_impl_indexCode_1.mono _ _ _)
   | (with_reducible exact LeO.refl _)
   | (with_reducible exact LeO.none _)
   | (with_reducible refine LeO.ite ?_ ?_)
   | (with_reducible refine LeO.bind ?_ (fun _=>?_))
   | exact impl_ValidSquare.mono _ _ _ _
   | exact slices_ContainsFunc_int64_int64_at_impl_indexCode_1.mono _ _ _
   | exact LeO.none _
   | refine LeO.ite ?_ ?_
   | refine LeO.bind ?_ (fun _=>?_)
set_option maxHeartbeats 8000000 in
set_option maxRecDepth 100000 in
theorem impl_indexCode.calls (k : Nat) (a0_0 : Int) (a0_1 : Int) (A0_2 : Option Addr) (c0_2 : Nat) (l0_2 : List (S31)) (A1 : Option Addr) (c1 : Nat) (l1 : List Int) (r : Int) (w : World) (hr0_2 : Kd.C k31 w A0_2 l0_2.length l0_2) (hc0_2 : l0_2.length ≤ c0_2) (hr1 : Kd.C (Kd.int .i64) w A1 l1.length l1) (hc1 : l1.length ≤ c1) (h : impl_indexCode.f k a0_0 a0_1 l0_2 l1 = some r) :
  Calls Try.prog 23 #[.agg #[.int .i8 a0_0,.int .i8 a0_1,.slice A0_2 l0_2.length c0_2],.slice A1 l1.length c1] w fun e w'=>e = .returned (.int .i64 r) ∧ Below w.heap.size w w':=by
 have hu29:=Try.underlying29;have HR0_2:=am_ hr0_2;have HC0_2:=am_ hc0_2;clear hr0_2 hc0_2;have HR1:=am_ hr1;have HC1:=am_ hc1;clear hr1 hc1;have HB:=am_ (Below.refl w.heap.size w);have H : ((impl_ValidSquare.f k a0_0 a0_1 l0_2).bind fun t243=>(if t243 = true then ((slices_ContainsFunc_int64_int64_at_impl_indexCode_1.f k l1 [(⟨a0_0,a0_1,l0_2⟩ : S29)]).bind fun t244=>((impl_unless.f (!t244) 2).bind fun t245=>(some t245))) else (some 1))) = some r:=h;clear h;replace H:=Option.bind_eq_some_iff.mp H;obtain ⟨t243,A30,H⟩:=H;replace H : (if t243 = true then ((slices_ContainsFunc_int64_int64_at_impl_indexCode_1.f k l1 [(⟨a0_0,a0_1,l0_2⟩ : S29)]).bind fun t244=>((impl_unless.f (!t244) 2).bind fun t245=>(some t245))) else (some 1)) = some r:=H;have A3:=am_ A30;clear A30
 by_cases c4 : t243 = true
 ·
  subst c4;have H1 : ((slices_ContainsFunc_int64_int64_at_impl_indexCode_1.f k l1 [(⟨a0_0,a0_1,l0_2⟩ : S29)]).bind fun t244=>((impl_unless.f (!t244) 2).bind fun t245=>(some t245))) = some r:=by rw [if_pos rfl] at H;exact H
  clear H;have H:=H1;clear H1;replace H:=Option.bind_eq_some_iff.mp H;obtain ⟨t244,A50,H⟩:=H;replace H : ((impl_unless.f (!t244) 2).bind fun t245=>(some t245)) = some r:=H;have A5:=am_ A50;clear A50;replace H:=Option.bind_eq_some_iff.mp H;obtain ⟨t245,A60,H⟩:=H;replace H : (some t245) = some r:=H;have A6:=am_ A60;clear A60;obtain rfl:=Option.some.inj H
  go_enter Try.func23,Try.ntmps23
  go_wp2_with (first|((with_reducible refine gate_dst (N:=2) rfl ?_);refine box_event ?hg (N:=2) ?hd (cs:=#[.int .i8 a0_0,.int .i8 a0_1,.slice A0_2 l0_2.length c0_2]) (t:=29) ?hr ?_;(case hd=>rfl);(case hg=>rfl);(case hr=>first|(go_simp;done)|(go_simp;rfl));intro gb242 hg w7 hbox hb;have n0_:=am_ (bT_ HB.out hb);have n1_:=am_ (hbox);have n2_:=am_ ((by rw [hg];exact (bZ_ HB.out) : w.heap.size≤gb242));have n3_:=n2_;clear HB;have HB:=n0_;have BK242:=n1_;have GW242:=n2_;have GE242:=n3_;clear n0_ n1_ n2_ n3_;clear hb hbox hg;have hcz8_0 : w7.cell? ⟨gb242,0,none⟩ = some (.int .i8 a0_0):=(kC_ BK242.out 0).trans rfl;have hcz8_1 : w7.cell? ⟨gb242,1,none⟩ = some (.int .i8 a0_1):=(kC_ BK242.out 1).trans rfl;have hcz8_2 : w7.cell? ⟨gb242,2,none⟩ = some (.slice A0_2 l0_2.length c0_2):=(kC_ BK242.out 2).trans rfl;have hfz8_0:=kF_ BK242.out 0;have hfz8_1:=kF_ BK242.out 1;have hfz8_2:=kF_ BK242.out 2)|((with_reducible refine gate_callee (f:=33) rfl ?_);refine goesL_ (some 6) rfl rfl Try.func33 (by kernel_rfl) rfl #[.agg #[.int .i8 a0_0,.int .i8 a0_1,.slice A0_2 l0_2.length c0_2]] rfl (by (try simp only [List.map_toArray,List.map_cons,List.map_nil]);first|done|rfl|(simp only [List.length_drop,List.length_take];rfl)) ?_;(with_reducible refine (impl_ValidSquare.calls k a0_0 a0_1 _ _ l0_2 true _ ?side1 ?side2 A3.out).mono ?_);(case side1=>repeat (first|exact (cB_ HR0_2.out HB.out)|(with_reducible refine Kd.C_alloc ?_ _)|(with_reducible refine Kd.C_drewN ?_ _)|(with_reducible refine Kd.C_drew ?_)));(case side2=>exact HC0_2.out);rintro e w9 ⟨rfl,hb⟩;refine ⟨_,rfl,?_⟩;replace BK242:=am_ (kB_ BK242.out hb);replace HB:=am_ (bT_ HB.out hb);(try clear hb hb2 hk hi))|((with_reducible refine gate_callee (f:=43) rfl ?_);refine goesL_ (some 10) rfl rfl Try.func43 (by kernel_rfl) rfl #[.slice A1 l1.length c1,.func (.func 44) #[] #[.pointer (some ⟨gb242,0,none⟩)]] rfl (by (try simp only [List.map_toArray,List.map_cons,List.map_nil]);first|done|rfl|(simp only [List.length_drop,List.length_take];rfl)) ?_;(with_reducible refine (slices_ContainsFunc_int64_int64_at_impl_indexCode_1.calls k _ _ l1 _ 1 [(⟨a0_0,a0_1,l0_2⟩ : S29)] t244 _ ?side1 ?side2 ?side3 ?side4 A5.out).mono ?_);(case side1=>repeat (first|exact (cB_ HR1.out HB.out)|(with_reducible refine Kd.C_alloc ?_ _)|(with_reducible refine Kd.C_drewN ?_ _)|(with_reducible refine Kd.C_drew ?_)));(case side2=>exact HC1.out);(case side3=>exact Kd.C_one_ BK242.out (k29_mk _ _ (by exact HC0_2.out) (by repeat (first|exact (cB_ HR0_2.out HB.out)|(with_reducible refine Kd.C_alloc ?_ _)|(with_reducible refine Kd.C_drewN ?_ _)|(with_reducible refine Kd.C_drew ?_)))));(case side4=>exact Nat.le_refl _);rintro e w' ⟨rfl,⟨nd,rfl⟩⟩;refine ⟨_,rfl,?_⟩)|((with_reducible refine gate_callee (f:=42) rfl ?_);refine goesL_ (some 12) rfl rfl Try.func42 (by kernel_rfl) rfl #[.bool (!t244),.int .i64 2] rfl (by (try simp only [List.map_toArray,List.map_cons,List.map_nil]);first|done|rfl|(simp only [List.length_drop,List.length_take];rfl)) ?_;(with_reducible refine (impl_unless.calls (!t244) 2 t245 _ A6.out).mono ?_);rintro e w' ⟨rfl,⟨nd,rfl⟩⟩;refine ⟨_,rfl,?_⟩))
  go_ret
  exact ⟨by first|rfl|(simp [errW_none,errW_some] <;> rfl)|(simp [*,errW_none,errW_some] <;> rfl),by repeat (first|(with_reducible first|exact HB.out|apply bA_|apply bN_|apply bD_|refine bS_ ?_ GE242.out)|exact HB.out)⟩
 ·
  replace c4:=Bool.eq_false_iff.mpr c4;subst c4;have H1 : (some 1) = some r:=by rw [if_neg (show ¬ (false = true) by decide)] at H;exact H
  clear H;have H:=H1;clear H1;obtain rfl:=Option.some.inj H
  go_enter Try.func23,Try.ntmps23
  go_wp2_with (first|((with_reducible refine gate_dst (N:=2) rfl ?_);refine box_event ?hg (N:=2) ?hd (cs:=#[.int .i8 a0_0,.int .i8 a0_1,.slice A0_2 l0_2.length c0_2]) (t:=29) ?hr ?_;(case hd=>rfl);(case hg=>rfl);(case hr=>first|(go_simp;done)|(go_simp;rfl));intro gb242 hg w10 hbox hb;have n0_:=am_ (bT_ HB.out hb);have n1_:=am_ (hbox);have n2_:=am_ ((by rw [hg];exact (bZ_ HB.out) : w.heap.size≤gb242));have n3_:=n2_;clear HB;have HB:=n0_;have BK242:=n1_;have GW242:=n2_;have GE242:=n3_;clear n0_ n1_ n2_ n3_;clear hb hbox hg;have hcz11_0 : w10.cell? ⟨gb242,0,none⟩ = some (.int .i8 a0_0):=(kC_ BK242.out 0).trans rfl;have hcz11_1 : w10.cell? ⟨gb242,1,none⟩ = some (.int .i8 a0_1):=(kC_ BK242.out 1).trans rfl;have hcz11_2 : w10.cell? ⟨gb242,2,none⟩ = some (.slice A0_2 l0_2.length c0_2):=(kC_ BK242.out 2).trans rfl;have hfz11_0:=kF_ BK242.out 0;have hfz11_1:=kF_ BK242.out 1;have hfz11_2:=kF_ BK242.out 2)|((with_reducible refine gate_callee (f:=33) rfl ?_);refine goesL_ (some 6) rfl rfl Try.func33 (by kernel_rfl) rfl #[.agg #[.int .i8 a0_0,.int .i8 a0_1,.slice A0_2 l0_2.length c0_2]] rfl (by (try simp only [List.map_toArray,List.map_cons,List.map_nil]);first|done|rfl|(simp only [List.length_drop,List.length_take];rfl)) ?_;(with_reducible refine (impl_ValidSquare.calls k a0_0 a0_1 _ _ l0_2 false _ ?side1 ?side2 A3.out).mono ?_);(case side1=>repeat (first|exact (cB_ HR0_2.out HB.out)|(with_reducible refine Kd.C_alloc ?_ _)|(with_reducible refine Kd.C_drewN ?_ _)|(with_reducible refine Kd.C_drew ?_)));(case side2=>exact HC0_2.out);rintro e w12 ⟨rfl,hb⟩;refine ⟨_,rfl,?_⟩;replace BK242:=am_ (kB_ BK242.out hb);replace HB:=am_ (bT_ HB.out hb);(try clear hb hb2 hk hi)))
  go_ret
  exact ⟨by first|rfl|(simp [errW_none,errW_some] <;> rfl)|(simp [*,errW_none,errW_some] <;> rfl),by repeat (first|(with_reducible first|exact HB.out|apply bA_|apply bN_|apply bD_|refine bS_ ?_ GE242.out)|exact HB.out)⟩
def impl_Slab_26.f (l0 : List (S31)) : Option ((List (S31))) := (some (([] : List (S31)) : List (S31))).bind fun y246 => (if y246.length + l0.length < 35184372088832 then (some (y246 ++ l0)) else (none))
set_option maxHeartbeats 8000000 in
set_option maxRecDepth 100000 in
theorem impl_Slab_26.calls (A0 : Option Addr) (c0 : Nat) (l0 : List (S31)) (r : List (S31)) (w : World) (hr0 : Kd.C k31 w A0 l0.length l0) (hc0 : l0.length ≤ c0) (h : impl_Slab_26.f l0 = some r) :
  Calls Try.prog 26 #[.slice A0 l0.length c0] w fun e w'=>∃ v0_ : Value,e = .returned (v0_) ∧ Kd.R k31 31 w' w.heap.size (fun _=>True) v0_ r ∧ Below w.heap.size w w':=by
 have heq_:=fun (W : World) (a : Option Addr) (n c : Nat)=>Go.Lib.run_eql_slice_nil (P:=Try.prog) W 27 31 a n c 0 0 Try.underlying27
 obtain _|ad0_:=A0
 ·
  have hl_ : l0 = []:=by
   rcases Nat.eq_zero_or_pos l0.length with h0_|h0_
   · exact List.eq_nil_of_length_eq_zero h0_
   ·
    obtain ⟨_,e_,_⟩:=hr0.2.2 h0_
    cases e_
  subst hl_;have hr_ : r = []:=by
   have h2_:=h
   simp [impl_Slab_26.f] at h2_
   first|exact h2_|exact h2_.2|exact h2_.symm
  subst hr_
  go_enter Try.func26,Try.ntmps26
  go_wp2
  go_ret
  exact ⟨_,rfl,Kd.R_nil _ _ _ _ _,Below.refl _ _⟩
 have HR0:=am_ hr0;have HC0:=am_ hc0;clear hr0 hc0;have HB:=am_ (Below.refl w.heap.size w);have H : ((some (([] : List (S31)) : List (S31))).bind fun y246=>(if y246.length + l0.length < 35184372088832 then (some (y246 ++ l0)) else (none))) = some r:=h;clear h;obtain ⟨y246,hy246⟩ : ∃ y_ : List (S31),y_ = (([] : List (S31))):=⟨_,rfl⟩
 replace H : (if y246.length + l0.length < 35184372088832 then (some (y246 ++ l0)) else (none)) = some r:=by first|(rw [hy246];with_reducible exact H)|(have H2_:=(Option.bind_some _ _).symm.trans H;rw [hy246];with_reducible exact H2_)|(have H2_:=(Option.bind_some _ _).symm.trans H;with_reducible exact H2_)|with_reducible exact H|(rw [hy246];exact H)|exact H
 have Ny246:=am_ hy246;clear hy246
 by_cases c2 : y246.length + l0.length < 35184372088832
 ·
  rw [if_pos c2] at H;have LMc2:=am_ c2;clear c2;obtain ⟨y249,hy249⟩ : ∃ y_ : List (S31),y_ = (y246 ++ l0):=⟨_,rfl⟩
  replace H : (some y249) = some r:=by first|(rw [hy249];with_reducible exact H)|(have H2_:=(Option.bind_some _ _).symm.trans H;rw [hy249];with_reducible exact H2_)|(have H2_:=(Option.bind_some _ _).symm.trans H;with_reducible exact H2_)|with_reducible exact H|(rw [hy249];exact H)|exact H
  have Ny249:=am_ hy249;clear hy249;obtain rfl:=Option.some.inj H
  go_enter Try.func26,Try.ntmps26
  go_wp2_with (first|((with_reducible refine gate_dst (N:=5) rfl ?_);refine Kd.R_lit k31 _ 31 ?hg (N:=5) ?hd (xs:=([] : List (S31))) (inner:=[]) (ok:=fun _=>True) (okp:=fun _=>True) ?hr ?hp (fun _ hk=>hk) trivial (Below.refl _ _) (Nat.le_refl _) (by simp) ?_;(case hd=>rfl);(case hg=>rfl);(case hr=>first|(go_simp;done)|(go_simp;rfl));(case hp=>exact (Reps.none _ _));intro v247 w3 ho4 hb hg_ hnew_;clear hg_ hnew_;(first|rw [← Ny246.out] at ho4|(simp only [Int.reduceToNat] at ho4;rw [← Ny246.out] at ho4));have HO248:=am_ (Kd.R_lower ho4 (bZ_ HB.out));replace HB:=am_ (bT_ HB.out hb);clear hb ho4)|((with_reducible refine gate_builtin (b:=.append) (xs:=#[.tmp 5,.tmp 6]) rfl ?_);at_builtin;refine Kd.R_append_rows k31 (w0:=w) w.heap.size rfl (.tmp 5) (.tmp 6) 27 31 (.agg #[(.int .i8 0),(.int .i8 0),(.int .i8 0),(.int .i8 0)]) 4 rfl Try.underlying27 info31 rfl (by decide) (by omega) v247 y246 l0 _ _ _ (fun _=>True) (fun _=>False) rfl rfl ?aO ?aR (fun _ _ h=>h) (fun _ h=>h.elim) ?aF ?aB ?aS ?aL ?_;(case aR=>repeat (first|exact (cB_ HR0.out HB.out)|(with_reducible refine Kd.C_alloc ?_ _)|(with_reducible refine Kd.C_drewN ?_ _)|(with_reducible refine Kd.C_drew ?_)));(case aB=>exact HB.out);(case aF=>exact (fun _ _=>trivial));(case aO=>exact HO248.out);(case aS=>exact (bZ_ HB.out));(case aL=>have:=LMc2.out;omega);intro v250 w5 ho hb hg hat;rw [← Ny249.out] at ho;have n0_:=am_ (hb);have n1_:=am_ (ho);clear HB;clear HO248;have HB:=n0_;have HO251:=n1_;clear n0_ n1_;clear ho hb hg hat))
  go_ret
  exact ⟨_,by first|rfl|(simp [errW_none,errW_some] <;> rfl)|(simp [*,errW_none,errW_some] <;> rfl),by (with_reducible repeat (first|apply Kd.R_alloc|apply Kd.R_drewN|apply Kd.R_drew));exact HO251.out,by repeat (first|(with_reducible first|exact HB.out|apply bA_|apply bN_|apply bD_)|exact HB.out)⟩
 · rw [if_neg c2] at H;exact absurd H (by simp)
end Go.Proofs.Ytgpfjmkmopjfbaa.Q
