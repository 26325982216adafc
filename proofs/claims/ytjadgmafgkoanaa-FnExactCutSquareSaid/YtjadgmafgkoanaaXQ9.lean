-- Trimmed by a program of this session's.
import Derived.Test.YtjadgmafgkoanaaXQ0
namespace Go.Proofs.Ytjadgmafgkoanaa.Q
open Go.RowKit Go.Proofs.YtjadgmafgkoanaaW.PrintWords Go.Proofs.YtjadgmafgkoanaaW.PrintLast Go.Proofs.YtjadgmafgkoanaaW.PrintMore
attribute [local go_sem] max2_int min2_int max_two min_two max_three min_three max_four min_four
set_option linter.unusedVariables false
set_option linter.unusedSimpArgs false
def impl_Slab_66.f (l0 : List (S49)) : Option ((List (S49))) := (some (([] : List (S49)) : List (S49))).bind fun y261 => (if y261.length + l0.length < 35184372088832 then (some (y261 ++ l0)) else (none))
set_option maxHeartbeats 8000000 in
set_option maxRecDepth 100000 in
theorem impl_Slab_66.calls (A0 : Option Addr) (c0 : Nat) (l0 : List (S49)) (r : List (S49)) (w : World) (hr0 : Kd.C k49 w A0 l0.length l0) (hc0 : l0.length ≤ c0) (h : impl_Slab_66.f l0 = some r) :
  Calls Try.prog 66 #[.slice A0 l0.length c0] w fun e w'=>∃ v0_ : Value,e = .returned (v0_) ∧ Kd.R k49 49 w' w.heap.size (fun _=>True) v0_ r ∧ Below w.heap.size w w':=by
 have heq_:=fun (W : World) (a : Option Addr) (n c : Nat)=>Go.Lib.run_eql_slice_nil (P:=Try.prog) W 27 49 a n c 0 0 Try.underlying27
 obtain _|ad0_:=A0
 ·
  have hl_ : l0 = []:=by
   rcases Nat.eq_zero_or_pos l0.length with h0_|h0_
   · exact List.eq_nil_of_length_eq_zero h0_
   ·
    obtain ⟨_,e_,_⟩:=hr0.2.2 h0_
    cases e_
  subst hl_;have hr_ : r = []:=by
   have h2_:=h
   simp [impl_Slab_66.f] at h2_
   first|exact h2_|exact h2_.2|exact h2_.symm
  subst hr_
  go_enter Try.func66,Try.ntmps66
  go_wp2
  go_ret
  exact ⟨_,rfl,Kd.R_nil _ _ _ _ _,Below.refl _ _⟩
 have HR0:=am_ hr0;have HC0:=am_ hc0;clear hr0 hc0;have HB:=am_ (Below.refl w.heap.size w);have H : ((some (([] : List (S49)) : List (S49))).bind fun y261=>(if y261.length + l0.length < 35184372088832 then (some (y261 ++ l0)) else (none))) = some r:=h;clear h;obtain ⟨y261,hy261⟩ : ∃ y_ : List (S49),y_ = (([] : List (S49))):=⟨_,rfl⟩
 replace H : (if y261.length + l0.length < 35184372088832 then (some (y261 ++ l0)) else (none)) = some r:=by first|(rw [hy261];with_reducible exact H)|(have H2_:=(Option.bind_some _ _).symm.trans H;rw [hy261];with_reducible exact H2_)|(have H2_:=(Option.bind_some _ _).symm.trans H;with_reducible exact H2_)|with_reducible exact H|(rw [hy261];exact H)|exact H
 have Ny261:=am_ hy261;clear hy261
 by_cases c2 : y261.length + l0.length < 35184372088832
 ·
  rw [if_pos c2] at H;have LMc2:=am_ c2;clear c2;obtain ⟨y264,hy264⟩ : ∃ y_ : List (S49),y_ = (y261 ++ l0):=⟨_,rfl⟩
  replace H : (some y264) = some r:=by first|(rw [hy264];with_reducible exact H)|(have H2_:=(Option.bind_some _ _).symm.trans H;rw [hy264];with_reducible exact H2_)|(have H2_:=(Option.bind_some _ _).symm.trans H;with_reducible exact H2_)|with_reducible exact H|(rw [hy264];exact H)|exact H
  have Ny264:=am_ hy264;clear hy264;obtain rfl:=Option.some.inj H
  go_enter Try.func66,Try.ntmps66
  go_wp2_with (first|((with_reducible refine gate_dst (N:=5) rfl ?_);refine Kd.R_lit k49 _ 49 ?hg (N:=5) ?hd (xs:=([] : List (S49))) (inner:=[]) (ok:=fun _=>True) (okp:=fun _=>True) ?hr ?hp (fun _ hk=>hk) trivial (Below.refl _ _) (Nat.le_refl _) (by simp) ?_;(case hd=>rfl);(case hg=>rfl);(case hr=>first|(go_simp;done)|(go_simp;rfl));(case hp=>exact (Reps.none _ _));intro v262 w3 ho4 hb hg_ hnew_;clear hg_ hnew_;(first|rw [← Ny261.out] at ho4|(simp only [Int.reduceToNat] at ho4;rw [← Ny261.out] at ho4));have n0_:=am_ (Kd.R_lower ho4 (bZ_ (by exact HB.out)));have n1_:=am_ (bT_ (by exact HB.out) hb);clear HB;have HO263:=n0_;have HB:=n1_;clear n0_ n1_;clear hb ho4)|((with_reducible refine gate_builtin (b:=.append) (xs:=#[.tmp 5,.tmp 6]) rfl ?_);at_builtin;refine Kd.R_append_rows k49 (w0:=w) w.heap.size rfl (.tmp 5) (.tmp 6) 27 49 (.agg #[(.int .i8 0),(.int .i8 0),(.int .i8 0),(.int .i8 0)]) 4 rfl Try.underlying27 info49 rfl (by decide) (by omega) v262 y261 l0 _ _ _ (fun _=>True) (fun _=>False) rfl rfl ?aO ?aR (fun _ _ h=>h) (fun _ h=>h.elim) ?aF ?aB ?aS ?aL ?_;(case aR=>repeat (first|exact (cB_ HR0.out HB.out)|(with_reducible refine Kd.C_alloc ?_ _)|(with_reducible refine Kd.C_drewN ?_ _)|(with_reducible refine Kd.C_drew ?_)));(case aB=>exact (by exact HB.out));(case aF=>exact (fun _ _=>trivial));(case aO=>exact (by exact HO263.out));(case aS=>exact (bZ_ (by exact HB.out)));(case aL=>have:=LMc2.out;omega);intro v265 w5 ho hb hg hat;rw [← Ny264.out] at ho;have n0_:=am_ (hb);have n1_:=am_ (ho);clear HB;clear HO263;have HB:=n0_;have HO266:=n1_;clear n0_ n1_;clear ho hb hg hat))
  go_ret
  exact ⟨_,by first|rfl|(simp [errW_none,errW_some] <;> rfl)|(simp [*,errW_none,errW_some] <;> rfl),by (with_reducible repeat (first|apply Kd.R_alloc|apply Kd.R_drewN|apply Kd.R_drew));exact HO266.out,by repeat (first|(with_reducible first|exact HB.out|apply bA_|apply bN_|apply bD_)|exact HB.out)⟩
 · rw [if_neg c2] at H;exact absurd H (by simp)
def cmp_Or_int.l0 : Nat → Int → List Int → Int → Int → Option (Int)
 | 0,_,_,_,_=>none
 | k + 1,x3,x6,x7,x8=>if x8 < x7 then (if 0≤x8 then (if x8 < (x6.length : Int) then (if (rd x6 x8) = x3 then (cmp_Or_int.l0 k x3 x6 x7 (wrap64 (x8 + 1))) else (some (rd x6 x8))) else (none)) else (none)) else (some x3)
def cmp_Or_int.f (k : Nat) (l0 : List Int) : Option (Int) := cmp_Or_int.l0 k 0 l0 (l0.length : Int) 0
theorem cmp_Or_int.mono_l : ∀ k, (∀ y0 y1 y2 y3, LeO (cmp_Or_int.l0 k y0 y1 y2 y3) (cmp_Or_int.l0 (k + 1) y0 y1 y2 y3))
 | 0=>fun _ _ _ _ r h=>by simp [cmp_Or_int.l0] at h
 | k + 1=>by
  have ih0:=cmp_Or_int.mono_l k
  ·
   intro y0 y1 y2 y3
   unfold cmp_Or_int.l0
   repeat' first
   | (with_reducible exact ih0 _ _ _ _)
   | (with_reducible exact LeO.refl _)
   | (with_reducible exact LeO.none _)
   | (with_reducible refine LeO.ite ?_ ?_)
   | (with_reducible refine LeO.bind ?_ (fun _=>?_))
   | exact ih0 _ _ _ _
   | exact LeO.none _
   | refine LeO.ite ?_ ?_
   | refine LeO.bind ?_ (fun _=>?_)
theorem cmp_Or_int.mono : ∀ a0 k, LeO (cmp_Or_int.f k a0) (cmp_Or_int.f (k + 1) a0) := by
 intro a0 k;have ih0:=cmp_Or_int.mono_l k
 unfold cmp_Or_int.f
 repeat' first
   | (with_reducible exact ih0 _ _ _ _)
   | (with_reducible exact LeO.refl _)
   | (with_reducible exact LeO.none _)
   | (with_reducible refine LeO.ite ?_ ?_)
   | (with_reducible refine LeO.bind ?_ (fun _=>?_))
   | exact ih0 _ _ _ _
   | exact LeO.none _
   | refine LeO.ite ?_ ?_
   | refine LeO.bind ?_ (fun _=>?_)
set_option maxHeartbeats 8000000 in
set_option maxRecDepth 100000 in
theorem cmp_Or_int.calls (k : Nat) (A0 : Option Addr) (c0 : Nat) (l0 : List Int) (r : Int) (w : World) (hr0 : Kd.C (Kd.int .i64) w A0 l0.length l0) (hc0 : l0.length ≤ c0) (h : cmp_Or_int.f k l0 = some r) :
  Calls Try.prog 58 #[.slice A0 l0.length c0] w fun e w'=>e = .returned (.int .i64 r) ∧ Drawn0 w w':=by
 have HR0:=am_ hr0;have HC0:=am_ hc0;clear hr0 hc0;have H : (cmp_Or_int.l0 k 0 l0 (l0.length : Int) 0) = some r:=h;clear h;have H':=am_ H;clear H
 go_enter Try.func58,Try.ntmps58
 go_wp2
 go_loopg [8] k (fun kq v8 w'=>∃ (x8_1 : Int),v8 = .int .i64 x8_1 ∧ Aside0 (cmp_Or_int.l0 kq 0 l0 (l0.length : Int) x8_1 = some r) ∧ Aside0 (kq≤k) ∧ Drawn0 w w')
 case atStart=>exact ⟨(0),(by first|rfl|(simp;done)|(simp [*];done)),H',⟨Nat.le_refl _⟩,by repeat (first|exact Drawn0.refl _|apply Drawn0.step)⟩
 case round =>
  clear H';obtain ⟨x8_1,rfl,HA,HK1,⟨m1,rfl⟩⟩:=hrel
  cases gk with
  | zero=>exact absurd HA.out (by simp [cmp_Or_int.l0])
  | succ k1 =>
   have H:=HA.out;clear HA;simp only [cmp_Or_int.l0] at H
   by_cases c2 : x8_1 < (l0.length : Int)
   ·
    rw [if_pos c2] at H;have c2b0 : decide (x8_1 < (l0.length : Int)) = true:=decide_eq_true c2;clear c2
    by_cases c3 : 0≤x8_1
    ·
     rw [if_pos c3] at H;have c3b0 : decide (0≤x8_1) = true:=decide_eq_true c3;clear c3
     by_cases c4 : x8_1 < (l0.length : Int)
     ·
      rw [if_pos c4] at H;have c4b0 : decide (x8_1 < (l0.length : Int)) = true:=decide_eq_true c4;clear c4
      by_cases c5 : (rd l0 x8_1) = 0
      ·
       rw [if_pos c5] at H;have c5b0 : ((rd l0 x8_1) == 0) = true:=beq_iff_eq.mpr c5;have c5b1 : ((rd l0 x8_1) != 0) = false:=bne_eq_false_iff_eq.mpr c5;clear c5;have H':=am_ H;clear H;have p267 : 0≤(x8_1 : Int):=od_ (by first|(with_reducible assumption)|assumption);have q267 : x8_1 < (l0.length : Int):=od_ (by first|(with_reducible assumption)|assumption);obtain ⟨ad267,e267,hx267_0⟩:=Kd.at_int HR0.out x8_1 p267 q267
       cases e267
       replace p267:=eq_true p267;replace q267:=eq_true q267
       go_wp2
       go_roundg k1
       case measure=>have:=HK1.out;omega
       case rel=>exact ⟨(wrap64 (x8_1 + 1)),(by first|rfl|(simp;done)|(simp [*];done)),H',⟨by have:=HK1.out;omega⟩,by repeat (first|exact Drawn0.refl _|apply Drawn0.step)⟩
      ·
       rw [if_neg c5] at H;have c5b0 : ((rd l0 x8_1) == 0) = false:=beq_eq_false_iff_ne.mpr c5;have c5b1 : ((rd l0 x8_1) != 0) = true:=bne_iff_ne.mpr c5;obtain rfl:=Option.some.inj H;have p267 : 0≤(x8_1 : Int):=od_ (by first|(with_reducible assumption)|assumption);have q267 : x8_1 < (l0.length : Int):=od_ (by first|(with_reducible assumption)|assumption);obtain ⟨ad267,e267,hx267_0⟩:=Kd.at_int HR0.out x8_1 p267 q267
       cases e267
       replace p267:=eq_true p267;replace q267:=eq_true q267
       go_wp2
       go_ret
       exact ⟨by first|rfl|(simp;done)|(simp [*];done),by repeat (first|exact Drawn0.refl _|apply Drawn0.step)⟩
     · rw [if_neg c4] at H;exact absurd H (by simp)
    · rw [if_neg c3] at H;exact absurd H (by simp)
   ·
    rw [if_neg c2] at H;have c2b0 : decide (x8_1 < (l0.length : Int)) = false:=decide_eq_false c2;clear c2;obtain rfl:=Option.some.inj H
    go_wp2
    go_ret
    exact ⟨by first|rfl|(simp;done)|(simp [*];done),by repeat (first|exact Drawn0.refl _|apply Drawn0.step)⟩
def cmp_isNaN_int8.f (a0 : Int) : Option (Bool) := some (a0 != a0)
set_option maxHeartbeats 8000000 in
set_option maxRecDepth 100000 in
theorem cmp_isNaN_int8.calls (a0 : Int) (r : Bool) (w : World) (h : cmp_isNaN_int8.f a0 = some r) :
  Calls Try.prog 90 #[.int .i8 a0] w fun e w'=>e = .returned (.bool r) ∧ Drawn0 w w':=by
 have H : (some (a0 != a0)) = some r:=h;clear h;obtain rfl:=Option.some.inj H
 go_enter Try.func90,Try.ntmps90
 go_wp2
 go_ret
 exact ⟨by first|rfl|(simp;done)|(simp [*];done),by repeat (first|exact Drawn0.refl _|apply Drawn0.step)⟩
def cmp_Compare_int8.f (a0 : Int) (a1 : Int) : Option (Int) := (cmp_isNaN_int8.f a0).bind fun t268 => ((cmp_isNaN_int8.f a1).bind fun t269 => (if t268 = true then (if t269 = true then (some 0) else (some (-1))) else (if t269 = true then (some 1) else (if a0 < a1 then (some (-1)) else (if a0 > a1 then (some 1) else (some 0))))))
set_option maxHeartbeats 8000000 in
set_option maxRecDepth 100000 in
theorem cmp_Compare_int8.calls (a0 : Int) (a1 : Int) (r : Int) (w : World) (h : cmp_Compare_int8.f a0 a1 = some r) :
  Calls Try.prog 59 #[.int .i8 a0,.int .i8 a1] w fun e w'=>e = .returned (.int .i64 r) ∧ Drawn0 w w':=by
 have H : ((cmp_isNaN_int8.f a0).bind fun t268=>((cmp_isNaN_int8.f a1).bind fun t269=>(if t268 = true then (if t269 = true then (some 0) else (some (-1))) else (if t269 = true then (some 1) else (if a0 < a1 then (some (-1)) else (if a0 > a1 then (some 1) else (some 0))))))) = some r:=h;clear h;replace H:=Option.bind_eq_some_iff.mp H;obtain ⟨t268,A30,H⟩:=H;replace H : ((cmp_isNaN_int8.f a1).bind fun t269=>(if t268 = true then (if t269 = true then (some 0) else (some (-1))) else (if t269 = true then (some 1) else (if a0 < a1 then (some (-1)) else (if a0 > a1 then (some 1) else (some 0)))))) = some r:=H;have A3:=am_ A30;clear A30;replace H:=Option.bind_eq_some_iff.mp H;obtain ⟨t269,A40,H⟩:=H;replace H : (if t268 = true then (if t269 = true then (some 0) else (some (-1))) else (if t269 = true then (some 1) else (if a0 < a1 then (some (-1)) else (if a0 > a1 then (some 1) else (some 0))))) = some r:=H;have A4:=am_ A40;clear A40
 by_cases c5 : t268 = true
 ·
  subst c5;have H1 : (if t269 = true then (some 0) else (some (-1))) = some r:=by rw [if_pos rfl] at H;exact H
  clear H;have H:=H1;clear H1
  by_cases c6 : t269 = true
  ·
   subst c6;have H1 : (some 0) = some r:=by rw [if_pos rfl] at H;exact H
   clear H;have H:=H1;clear H1;obtain rfl:=Option.some.inj H
   go_enter Try.func59,Try.ntmps59
   go_wp2_with (first|((with_reducible refine gate_callee (f:=90) rfl ?_);refine goesL_ (some 8) rfl rfl Try.func90 (by kernel_rfl) rfl #[.int .i8 a0] rfl (by (try simp only [List.map_toArray,List.map_cons,List.map_nil]);first|done|rfl|(simp only [List.length_drop,List.length_take];rfl)) ?_;(with_reducible refine (cmp_isNaN_int8.calls a0 true _ A3.out).mono ?_);rintro e w' ⟨rfl,⟨nd,rfl⟩⟩;refine ⟨_,rfl,?_⟩)|((with_reducible refine gate_callee (f:=90) rfl ?_);refine goesL_ (some 10) rfl rfl Try.func90 (by kernel_rfl) rfl #[.int .i8 a1] rfl (by (try simp only [List.map_toArray,List.map_cons,List.map_nil]);first|done|rfl|(simp only [List.length_drop,List.length_take];rfl)) ?_;(with_reducible refine (cmp_isNaN_int8.calls a1 true _ A4.out).mono ?_);rintro e w' ⟨rfl,⟨nd,rfl⟩⟩;refine ⟨_,rfl,?_⟩))
   go_ret
   exact ⟨by first|rfl|(simp;done)|(simp [*];done),by repeat (first|exact Drawn0.refl _|apply Drawn0.step)⟩
  ·
   replace c6:=Bool.eq_false_iff.mpr c6;subst c6;have H1 : (some (-1)) = some r:=by rw [if_neg (show ¬ (false = true) by decide)] at H;exact H
   clear H;have H:=H1;clear H1;obtain rfl:=Option.some.inj H
   go_enter Try.func59,Try.ntmps59
   go_wp2_with (first|((with_reducible refine gate_callee (f:=90) rfl ?_);refine goesL_ (some 8) rfl rfl Try.func90 (by kernel_rfl) rfl #[.int .i8 a0] rfl (by (try simp only [List.map_toArray,List.map_cons,List.map_nil]);first|done|rfl|(simp only [List.length_drop,List.length_take];rfl)) ?_;(with_reducible refine (cmp_isNaN_int8.calls a0 true _ A3.out).mono ?_);rintro e w' ⟨rfl,⟨nd,rfl⟩⟩;refine ⟨_,rfl,?_⟩)|((with_reducible refine gate_callee (f:=90) rfl ?_);refine goesL_ (some 10) rfl rfl Try.func90 (by kernel_rfl) rfl #[.int .i8 a1] rfl (by (try simp only [List.map_toArray,List.map_cons,List.map_nil]);first|done|rfl|(simp only [List.length_drop,List.length_take];rfl)) ?_;(with_reducible refine (cmp_isNaN_int8.calls a1 false _ A4.out).mono ?_);rintro e w' ⟨rfl,⟨nd,rfl⟩⟩;refine ⟨_,rfl,?_⟩))
   go_ret
   exact ⟨by first|rfl|(simp;done)|(simp [*];done),by repeat (first|exact Drawn0.refl _|apply Drawn0.step)⟩
 ·
  replace c5:=Bool.eq_false_iff.mpr c5;subst c5;have H1 : (if t269 = true then (some 1) else (if a0 < a1 then (some (-1)) else (if a0 > a1 then (some 1) else (some 0)))) = some r:=by rw [if_neg (show ¬ (false = true) by decide)] at H;exact H
  clear H;have H:=H1;clear H1
  by_cases c7 : t269 = true
  ·
   subst c7;have H1 : (some 1) = some r:=by rw [if_pos rfl] at H;exact H
   clear H;have H:=H1;clear H1;obtain rfl:=Option.some.inj H
   go_enter Try.func59,Try.ntmps59
   go_wp2_with (first|((with_reducible refine gate_callee (f:=90) rfl ?_);refine goesL_ (some 8) rfl rfl Try.func90 (by kernel_rfl) rfl #[.int .i8 a0] rfl (by (try simp only [List.map_toArray,List.map_cons,List.map_nil]);first|done|rfl|(simp only [List.length_drop,List.length_take];rfl)) ?_;(with_reducible refine (cmp_isNaN_int8.calls a0 false _ A3.out).mono ?_);rintro e w' ⟨rfl,⟨nd,rfl⟩⟩;refine ⟨_,rfl,?_⟩)|((with_reducible refine gate_callee (f:=90) rfl ?_);refine goesL_ (some 10) rfl rfl Try.func90 (by kernel_rfl) rfl #[.int .i8 a1] rfl (by (try simp only [List.map_toArray,List.map_cons,List.map_nil]);first|done|rfl|(simp only [List.length_drop,List.length_take];rfl)) ?_;(with_reducible refine (cmp_isNaN_int8.calls a1 true _ A4.out).mono ?_);rintro e w' ⟨rfl,⟨nd,rfl⟩⟩;refine ⟨_,rfl,?_⟩))
   go_ret
   exact ⟨by first|rfl|(simp;done)|(simp [*];done),by repeat (first|exact Drawn0.refl _|apply Drawn0.step)⟩
  ·
   replace c7:=Bool.eq_false_iff.mpr c7;subst c7;have H1 : (if a0 < a1 then (some (-1)) else (if a0 > a1 then (some 1) else (some 0))) = some r:=by rw [if_neg (show ¬ (false = true) by decide)] at H;exact H
   clear H;have H:=H1;clear H1
   by_cases c8 : a0 < a1
   ·
    rw [if_pos c8] at H;have c8b0 : decide (a0 < a1) = true:=decide_eq_true c8;clear c8;obtain rfl:=Option.some.inj H
    go_enter Try.func59,Try.ntmps59
    go_wp2_with (first|((with_reducible refine gate_callee (f:=90) rfl ?_);refine goesL_ (some 8) rfl rfl Try.func90 (by kernel_rfl) rfl #[.int .i8 a0] rfl (by (try simp only [List.map_toArray,List.map_cons,List.map_nil]);first|done|rfl|(simp only [List.length_drop,List.length_take];rfl)) ?_;(with_reducible refine (cmp_isNaN_int8.calls a0 false _ A3.out).mono ?_);rintro e w' ⟨rfl,⟨nd,rfl⟩⟩;refine ⟨_,rfl,?_⟩)|((with_reducible refine gate_callee (f:=90) rfl ?_);refine goesL_ (some 10) rfl rfl Try.func90 (by kernel_rfl) rfl #[.int .i8 a1] rfl (by (try simp only [List.map_toArray,List.map_cons,List.map_nil]);first|done|rfl|(simp only [List.length_drop,List.length_take];rfl)) ?_;(with_reducible refine (cmp_isNaN_int8.calls a1 false _ A4.out).mono ?_);rintro e w' ⟨rfl,⟨nd,rfl⟩⟩;refine ⟨_,rfl,?_⟩))
    go_ret
    exact ⟨by first|rfl|(simp;done)|(simp [*];done),by repeat (first|exact Drawn0.refl _|apply Drawn0.step)⟩
   ·
    rw [if_neg c8] at H;have c8b0 : decide (a0 < a1) = false:=decide_eq_false c8;clear c8
    by_cases c9 : a0 > a1
    ·
     rw [if_pos c9] at H;have c9b0 : decide (a1 < a0) = true:=decide_eq_true c9;clear c9;obtain rfl:=Option.some.inj H
     go_enter Try.func59,Try.ntmps59
     go_wp2_with (first|((with_reducible refine gate_callee (f:=90) rfl ?_);refine goesL_ (some 8) rfl rfl Try.func90 (by kernel_rfl) rfl #[.int .i8 a0] rfl (by (try simp only [List.map_toArray,List.map_cons,List.map_nil]);first|done|rfl|(simp only [List.length_drop,List.length_take];rfl)) ?_;(with_reducible refine (cmp_isNaN_int8.calls a0 false _ A3.out).mono ?_);rintro e w' ⟨rfl,⟨nd,rfl⟩⟩;refine ⟨_,rfl,?_⟩)|((with_reducible refine gate_callee (f:=90) rfl ?_);refine goesL_ (some 10) rfl rfl Try.func90 (by kernel_rfl) rfl #[.int .i8 a1] rfl (by (try simp only [List.map_toArray,List.map_cons,List.map_nil]);first|done|rfl|(simp only [List.length_drop,List.length_take];rfl)) ?_;(with_reducible refine (cmp_isNaN_int8.calls a1 false _ A4.out).mono ?_);rintro e w' ⟨rfl,⟨nd,rfl⟩⟩;refine ⟨_,rfl,?_⟩))
     go_ret
     exact ⟨by first|rfl|(simp;done)|(simp [*];done),by repeat (first|exact Drawn0.refl _|apply Drawn0.step)⟩
    ·
     rw [if_neg c9] at H;have c9b0 : decide (a1 < a0) = false:=decide_eq_false c9;clear c9;obtain rfl:=Option.some.inj H
     go_enter Try.func59,Try.ntmps59
     go_wp2_with (first|((with_reducible refine gate_callee (f:=90) rfl ?_);refine goesL_ (some 8) rfl rfl Try.func90 (by kernel_rfl) rfl #[.int .i8 a0] rfl (by (try simp only [List.map_toArray,List.map_cons,List.map_nil]);first|done|rfl|(simp only [List.length_drop,List.length_take];rfl)) ?_;(with_reducible refine (cmp_isNaN_int8.calls a0 false _ A3.out).mono ?_);rintro e w' ⟨rfl,⟨nd,rfl⟩⟩;refine ⟨_,rfl,?_⟩)|((with_reducible refine gate_callee (f:=90) rfl ?_);refine goesL_ (some 10) rfl rfl Try.func90 (by kernel_rfl) rfl #[.int .i8 a1] rfl (by (try simp only [List.map_toArray,List.map_cons,List.map_nil]);first|done|rfl|(simp only [List.length_drop,List.length_take];rfl)) ?_;(with_reducible refine (cmp_isNaN_int8.calls a1 false _ A4.out).mono ?_);rintro e w' ⟨rfl,⟨nd,rfl⟩⟩;refine ⟨_,rfl,?_⟩))
     go_ret
     exact ⟨by first|rfl|(simp;done)|(simp [*];done),by repeat (first|exact Drawn0.refl _|apply Drawn0.step)⟩
def impl_compareCells.f (k : Nat) (a0_0 : Int) (a0_1 : Int) (a1_0 : Int) (a1_1 : Int) : Option (Int) := (cmp_Compare_int8.f a0_1 a1_1).bind fun t272 => ((cmp_Compare_int8.f a0_0 a1_0).bind fun t273 => ((cmp_Or_int.f k (([t272, t273] : List Int))).bind fun t277 => (some t277)))
theorem impl_compareCells.mono : ∀ a0 a1 a2 a3 k, LeO (impl_compareCells.f k a0 a1 a2 a3) (impl_compareCells.f (k + 1) a0 a1 a2 a3) := by
 intro a0 a1 a2 a3 k
 unfold impl_compareCells.f
 repeat' first
   | (with_reducible exact cmp_Or_int.mono _ _)
   | (with_reducible exact LeO.refl _)
   | (with_reducible exact LeO.none _)
   | (with_reducible refine LeO.ite ?_ ?_)
   | (with_reducible refine LeO.bind ?_ (fun _=>?_))
   | exact cmp_Or_int.mono _ _
   | exact LeO.none _
   | refine LeO.ite ?_ ?_
   | refine LeO.bind ?_ (fun _=>?_)
def impl_compareCells.T1 : Bool × List (List Nat × List Nat) := (true, [([], []), ([0], [0]), ([], []), ([2], [2]), ([1, 3], [1, 3]), ([], []), ([5], [5]), ([], []), ([7], [7]), ([6, 8, 4], [6, 8]), ([4, 9], [4, 9]), ([10, 9], [10]), ([11, 11, 0, 1, 2, 3, 4, 5, 6, 7, 8, 9, 10, 11], [11])])
def impl_compareCells.B1 : List Nat := [0, 1, 0, 4, 15, 0, 32, 0, 128, 511, 1023, 2047, 4095]
theorem impl_compareCells.tab1 : rtab .any (opsOf Try.f101 1) = impl_compareCells.T1 := by kernel_rfl
theorem impl_compareCells.bits1 : waitsOk impl_compareCells.T1.2 impl_compareCells.B1 = true := by kernel_rfl
set_option maxHeartbeats 8000000 in
set_option maxRecDepth 100000 in
theorem impl_compareCells.calls (k : Nat) (a0_0 : Int) (a0_1 : Int) (a1_0 : Int) (a1_1 : Int) (r : Int) (w : World) (h : impl_compareCells.f k a0_0 a0_1 a1_0 a1_1 = some r) :
  Calls Try.prog 101 #[.agg #[.int .i8 a0_0,.int .i8 a0_1],.agg #[.int .i8 a1_0,.int .i8 a1_1]] w fun e w'=>e = .returned (.int .i64 r) ∧ Below w.heap.size w w':=by
 have hu96:=Try.underlying96;have HB:=am_ (Below.refl w.heap.size w);have H : ((cmp_Compare_int8.f a0_1 a1_1).bind fun t272=>((cmp_Compare_int8.f a0_0 a1_0).bind fun t273=>((cmp_Or_int.f k (([t272,t273] : List Int))).bind fun t277=>(some t277)))) = some r:=h;clear h;replace H:=Option.bind_eq_some_iff.mp H;obtain ⟨t272,A30,H⟩:=H;replace H : ((cmp_Compare_int8.f a0_0 a1_0).bind fun t273=>((cmp_Or_int.f k (([t272,t273] : List Int))).bind fun t277=>(some t277))) = some r:=H;have A3:=am_ A30;clear A30;replace H:=Option.bind_eq_some_iff.mp H;obtain ⟨t273,A40,H⟩:=H;replace H : ((cmp_Or_int.f k (([t272,t273] : List Int))).bind fun t277=>(some t277)) = some r:=H;have A4:=am_ A40;clear A40;obtain ⟨y274,hy274⟩ : ∃ y_ : List Int,y_ = (([t272,t273] : List Int)):=⟨_,rfl⟩
 replace H : ((cmp_Or_int.f k y274).bind fun t277=>(some t277)) = some r:=by first|(rw [hy274];with_reducible exact H)|(have H2_:=(Option.bind_some _ _).symm.trans H;rw [hy274];with_reducible exact H2_)|(have H2_:=(Option.bind_some _ _).symm.trans H;with_reducible exact H2_)|with_reducible exact H|(rw [hy274];exact H)|exact H
 have Ny274:=am_ hy274;clear hy274;replace H:=Option.bind_eq_some_iff.mp H;obtain ⟨t277,A50,H⟩:=H;replace H : (some t277) = some r:=H;have A5:=am_ A50;clear A50;obtain rfl:=Option.some.inj H
 go_enter Try.func101,Try.ntmps101
 try go_wp2_with (first|((with_reducible refine gate_dst (N:=2) rfl ?_);refine box_event ?hg (N:=2) ?hd (cs:=#[.int .i8 a0_0,.int .i8 a0_1]) (t:=96) ?hr ?_;(case hd=>rfl);(case hg=>rfl);(case hr=>first|(go_simp;done)|(go_simp;rfl));intro gb270 hg w6 hbox hb;have n0_:=am_ (bT_ (by exact HB.out) hb);have n1_:=am_ (hbox);have n2_:=am_ ((by rw [hg];exact (bZ_ (by exact HB.out)) : w.heap.size≤gb270));have n3_:=n2_;clear HB;have HB:=n0_;have BK270:=n1_;have GW270:=n2_;have GE270:=n3_;clear n0_ n1_ n2_ n3_;clear hb hbox hg)|((with_reducible refine gate_dst (N:=3) rfl ?_);refine box_event ?hg (N:=3) ?hd (cs:=#[.int .i8 a1_0,.int .i8 a1_1]) (t:=96) ?hr ?_;(case hd=>rfl);(case hg=>rfl);(case hr=>first|(go_simp;done)|(go_simp;rfl));intro gb271 hg w7 hbox hb;have n0_:=am_ (kB_ (g:=gb270) (o:=.cells #[.int .i8 a0_0,.int .i8 a0_1] 96 (0,0)) (by exact BK270.out) hb);have n1_:=am_ (bT_ (by exact HB.out) hb);have n2_:=am_ (hbox);have n3_:=am_ ((by rw [hg];exact (bZ_ (by exact HB.out)) : w.heap.size≤gb271));have n4_:=n3_;have n5_:=am_ ((by rw [hg];exact nL_ (kL_ (g:=gb270) (o:=.cells #[.int .i8 a0_0,.int .i8 a0_1] 96 (0,0)) (by exact BK270.out)) : gb270 ≠ gb271));have n6_:=am_ ((by rw [hg];exact nG_ (kL_ (g:=gb270) (o:=.cells #[.int .i8 a0_0,.int .i8 a0_1] 96 (0,0)) (by exact BK270.out)) : gb271 ≠ gb270));clear BK270;clear HB;have BK270:=n0_;have HB:=n1_;have BK271:=n2_;have GW271:=n3_;have GE271:=n4_;have NB270_271:=n5_;have NB271_270:=n6_;clear n0_ n1_ n2_ n3_ n4_ n5_ n6_;clear hb hbox hg))
 have n0_:=am_ (kD_ BK270.out);have n1_:=am_ (kD_ BK271.out);have n2_:=am_ (bD_ HB.out);clear BK270;clear BK271;clear HB;have BK270:=n0_;have BK271:=n1_;have HB:=n2_;clear n0_ n1_ n2_;refine start_ (n:=13) (S:=fun w'=>w'.cell? ⟨gb270,0,none⟩ = some (.int .i8 a0_0) ∧ w'.cell? ⟨gb270,1,none⟩ = some (.int .i8 a0_1) ∧ w'.cell? ⟨gb271,0,none⟩ = some (.int .i8 a1_0) ∧ w'.cell? ⟨gb271,1,none⟩ = some (.int .i8 a1_1)) (ds:=[]) (mB_ 13 0) (by kernel_rfl) rfl rfl ⟨(kC_ BK270.out 0).trans rfl,(kC_ BK270.out 1).trans rfl,(kC_ BK271.out 0).trans rfl,(kC_ BK271.out 1).trans rfl⟩ (fun hHeld=>?_);refine with_tabW impl_compareCells.tab1 impl_compareCells.bits1 (fun HT_ HW_=>?_);generalize w7.drew = w8 at BK270 BK271 HB hHeld ⊢;refine pure_ (i:=0) (N:=some 5) (v:=?_) (a':=?_) (mB_ 13 1) rfl rfl (any_of HT_.out (by kernel_rfl)) (fun _ _ _ h=>h) (Or.inl ⟨by rfl,?_⟩) ?_ ?_;rotate_left;(· intro w';go_simp;with_reducible rfl);rotate_left;(· simp only [Act.put,z1_,z2_,z3_,i64_w,i32_w];rfl)
 refine pure_ (i:=2) (N:=some 7) (v:=?_) (a':=?_) (mB_ 13 5) rfl rfl (any_of HT_.out (by kernel_rfl)) (fun _ _ _ h=>h) (Or.inl ⟨by rfl,?_⟩) ?_ ?_;rotate_left;(· intro w';go_simp;with_reducible rfl);rotate_left;(· simp only [Act.put,z1_,z2_,z3_,i64_w,i32_w];rfl)
 refine pure_ (i:=5) (N:=some 10) (v:=?_) (a':=?_) (mB_ 13 37) rfl rfl (any_of HT_.out (by kernel_rfl)) (fun _ _ _ h=>h) (Or.inl ⟨by rfl,?_⟩) ?_ ?_;rotate_left;(· intro w';go_simp;with_reducible rfl);rotate_left;(· simp only [Act.put,z1_,z2_,z3_,i64_w,i32_w];rfl)
 refine pure_ (i:=7) (N:=some 12) (v:=?_) (a':=?_) (mB_ 13 165) rfl rfl (any_of HT_.out (by kernel_rfl)) (fun _ _ _ h=>h) (Or.inl ⟨by rfl,?_⟩) ?_ ?_;rotate_left;(· intro w';go_simp;with_reducible rfl);rotate_left;(· simp only [Act.put,z1_,z2_,z3_,i64_w,i32_w];rfl)
 refine take_ (i:=1) (N:=some 6) (v:=?_) (a':=?_) (mB_ 13 167) rfl rfl (take_ofW HT_.out HW_.out (by kernel_rfl)) (fun _ _ _ h=>h) (Or.inl ⟨by rfl,?_⟩) hHeld ?_ ?_;rotate_left;(· rintro w' ⟨s0,s1,s2,s3⟩;go_simp;with_reducible rfl);rotate_left;(· simp only [Act.put,z1_,z2_,z3_,i64_w,i32_w];rfl)
 refine take_ (i:=3) (N:=some 8) (v:=?_) (a':=?_) (mB_ 13 175) rfl rfl (take_ofW HT_.out HW_.out (by kernel_rfl)) (fun _ _ _ h=>h) (Or.inl ⟨by rfl,?_⟩) hHeld ?_ ?_;rotate_left;(· rintro w' ⟨s0,s1,s2,s3⟩;go_simp;with_reducible rfl);rotate_left;(· simp only [Act.put,z1_,z2_,z3_,i64_w,i32_w];rfl)
 refine take_ (i:=6) (N:=some 11) (v:=?_) (a':=?_) (mB_ 13 239) rfl rfl (take_ofW HT_.out HW_.out (by kernel_rfl)) (fun _ _ _ h=>h) (Or.inl ⟨by rfl,?_⟩) hHeld ?_ ?_;rotate_left;(· rintro w' ⟨s0,s1,s2,s3⟩;go_simp;with_reducible rfl);rotate_left;(· simp only [Act.put,z1_,z2_,z3_,i64_w,i32_w];rfl)
 refine take_ (i:=8) (N:=some 13) (v:=?_) (a':=?_) (mB_ 13 495) rfl rfl (take_ofW HT_.out HW_.out (by kernel_rfl)) (fun _ _ _ h=>h) (Or.inl ⟨by rfl,?_⟩) hHeld ?_ ?_;rotate_left;(· rintro w' ⟨s0,s1,s2,s3⟩;go_simp;with_reducible rfl);rotate_left;(· simp only [Act.put,z1_,z2_,z3_,i64_w,i32_w];rfl)
 refine one_ (i:=4) (N:=some 9) (mB_ 13 511) rfl rfl (one_of HT_.out (by kernel_rfl)) (by decide) (fun K hK=>?_);refine goes_ Try.func59 (by kernel_rfl) rfl #[.int .i8 a0_1,.int .i8 a1_1] (by rfl) rfl rfl (by (try simp only [List.map_toArray,List.map_cons,List.map_nil]);first|done|rfl|(simp only [List.length_drop,List.length_take];rfl)) ?_
 with_reducible refine (cmp_Compare_int8.calls a0_1 a1_1 t272 _ A3.out).mono ?_
 rintro e w' ⟨rfl,⟨nd,rfl⟩⟩;refine ⟨_,rfl,?_⟩;refine hK.out _ _ ⟨(kC_ BK270.out 0).trans rfl,(kC_ BK270.out 1).trans rfl,(kC_ BK271.out 0).trans rfl,(kC_ BK271.out 1).trans rfl⟩ (fun hHeld=>?_);clear hK K;refine norm_ (a':=?_) ?_ ?_;rotate_left
 · show Act.put _ (some 9) _ = _;simp only [Act.put,z1_,z2_,z3_,i64_w,i32_w];rfl
 refine one_ (i:=9) (N:=some 14) (mB_ 13 1023) rfl rfl (one_of HT_.out (by kernel_rfl)) (by decide) (fun K hK=>?_);refine goes_ Try.func59 (by kernel_rfl) rfl #[.int .i8 a0_0,.int .i8 a1_0] (by rfl) rfl rfl (by (try simp only [List.map_toArray,List.map_cons,List.map_nil]);first|done|rfl|(simp only [List.length_drop,List.length_take];rfl)) ?_
 with_reducible refine (cmp_Compare_int8.calls a0_0 a1_0 t273 _ A4.out).mono ?_
 rintro e w' ⟨rfl,⟨nd,rfl⟩⟩;refine ⟨_,rfl,?_⟩;refine hK.out _ _ ⟨(kC_ BK270.out 0).trans rfl,(kC_ BK270.out 1).trans rfl,(kC_ BK271.out 0).trans rfl,(kC_ BK271.out 1).trans rfl⟩ (fun hHeld=>?_);clear hK K;refine norm_ (a':=?_) ?_ ?_;rotate_left
 · show Act.put _ (some 14) _ = _;simp only [Act.put,z1_,z2_,z3_,i64_w,i32_w];rfl
 refine one_ (i:=10) (N:=some 15) (mB_ 13 2047) rfl rfl (one_of HT_.out (by kernel_rfl)) (by decide) (fun K hK=>?_);refine Kd.R_lit_step (Kd.int .i64) _ 3 ?hg (N:=15) ?hd (xs:=([t272,t273] : List Int)) (inner:=[.int .i64 t272,.int .i64 t273]) (ok:=fun _=>True) (okp:=fun _=>True) ?hr ?hp (fun _ hk=>hk) trivial (Below.refl _ _) (Nat.le_refl _) (by simp) ?_;(case hd=>rfl);(case hg=>rfl);(case hr=>first|(go_simp;done)|(go_simp;rfl));(case hp=>exact (Reps.one (show Kd.M (Kd.int .i64) _ _ _ t272 [.int .i64 t272] from rfl) (Reps.one (show Kd.M (Kd.int .i64) _ _ _ t273 [.int .i64 t273] from rfl) (Reps.none _ _))));intro v275 w9 ho10 hb hg_ hnew_;clear hg_ hnew_
 (first|rw [← Ny274.out] at ho10|(simp only [Int.reduceToNat] at ho10;rw [← Ny274.out] at ho10))
 have n0_:=am_ (Kd.R_lower ho10 (bZ_ (by repeat (first|(with_reducible first|exact HB.out|apply bA_|apply bN_|apply bD_|refine bS_ ?_ GE270.out|refine bS_ ?_ GE271.out)|exact HB.out))));have n1_:=am_ (kB_ (g:=gb270) (o:=.cells #[.int .i8 a0_0,.int .i8 a0_1] 96 (0,0)) (by exact BK270.out) hb);have n2_:=am_ (kB_ (g:=gb271) (o:=.cells #[.int .i8 a1_0,.int .i8 a1_1] 96 (0,0)) (by exact BK271.out) hb);have n3_:=am_ (bT_ (by repeat (first|(with_reducible first|exact HB.out|apply bA_|apply bN_|apply bD_|refine bS_ ?_ GE270.out|refine bS_ ?_ GE271.out)|exact HB.out)) hb);clear BK270;clear BK271;clear HB;have HO276:=n0_;have BK270:=n1_;have BK271:=n2_;have HB:=n3_;clear n0_ n1_ n2_ n3_;clear hb ho10;obtain ⟨Ao11,co11,eo11⟩:=Kd.R_slice HO276.out
 (first|subst eo11|(injection eo11 with f1_ f2_ f3_;have f4_:=f1_.symm;have f5_:=f3_.symm;clear f1_ f2_ f3_;subst f4_;subst f5_))
 refine hK.out _ _ ⟨(kC_ BK270.out 0).trans rfl,(kC_ BK270.out 1).trans rfl,(kC_ BK271.out 0).trans rfl,(kC_ BK271.out 1).trans rfl⟩ (fun hHeld=>?_);clear hK K;refine norm_ (a':=?_) ?_ ?_;rotate_left
 · show Act.put _ (some 15) _ = _;simp only [Act.put,z1_,z2_,z3_,i64_w,i32_w];rfl
 refine one_ (i:=11) (N:=some 16) (mB_ 13 4095) rfl rfl (one_of HT_.out (by kernel_rfl)) (by decide) (fun K hK=>?_);refine goes_ Try.func58 (by kernel_rfl) rfl #[.slice Ao11 y274.length co11] (by rfl) rfl rfl (by (try simp only [List.map_toArray,List.map_cons,List.map_nil]);first|done|rfl|(simp only [List.length_drop,List.length_take];rfl)) ?_
 with_reducible refine (cmp_Or_int.calls k _ _ y274 t277 _ ?side1 ?side2 A5.out).mono ?_
 (case side1=>repeat (first|exact (Kd.R_reads' HO276.out).2.2|(with_reducible refine Kd.C_alloc ?_ _)|(with_reducible refine Kd.C_drewN ?_ _)|(with_reducible refine Kd.C_drew ?_)))
 (case side2=>exact (Kd.R_reads' HO276.out).2.1)
 rintro e w' ⟨rfl,⟨nd,rfl⟩⟩;refine ⟨_,rfl,?_⟩;refine hK.out _ _ ⟨(kC_ BK270.out 0).trans rfl,(kC_ BK270.out 1).trans rfl,(kC_ BK271.out 0).trans rfl,(kC_ BK271.out 1).trans rfl⟩ (fun hHeld=>?_);clear hK K;refine norm_ (a':=?_) ?_ ?_;rotate_left
 · show Act.put _ (some 16) _ = _;simp only [Act.put,z1_,z2_,z3_,i64_w,i32_w];rfl
 refine pure_ (i:=12) (N:=some 4) (v:=?_) (a':=?_) (mB_ 13 8191) rfl rfl (any_of HT_.out (by kernel_rfl)) (fun _ _ _ h=>h) (Or.inl ⟨by rfl,?_⟩) ?_ ?_;rotate_left;(· intro w';go_simp;with_reducible rfl);rotate_left;(· simp only [Act.put,z1_,z2_,z3_,i64_w,i32_w];rfl)
 refine done_ (done_of HT_.out (by kernel_rfl)) ?_
 try go_wp2
 go_ret
 exact ⟨by first|rfl|(simp [errW_none,errW_some] <;> rfl)|(simp [*,errW_none,errW_some] <;> rfl),by repeat (first|(with_reducible first|exact HB.out|apply bA_|apply bN_|apply bD_|refine bS_ ?_ GE270.out|refine bS_ ?_ GE271.out)|exact HB.out)⟩
end Go.Proofs.Ytjadgmafgkoanaa.Q
