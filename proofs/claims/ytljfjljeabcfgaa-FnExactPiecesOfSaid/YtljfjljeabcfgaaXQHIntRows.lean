-- Trimmed by a program.
import Derived.Test.YtljfjljeabcfgaaXQ0
import Derived.Test.YtljfjljeabcfgaaXQHInts
import Derived.Test.YtljfjljeabcfgaaXQHInts
namespace Go.Proofs.Ytljfjljeabcfgaa.Q
open RowKit YtljfjljeabcfgaaW.PrintWords YtljfjljeabcfgaaW.PrintLast YtljfjljeabcfgaaW.PrintMore
attribute [local go_sem] max2_int min2_int max_two min_two max_three min_three max_four min_four
set_option linter.unusedVariables false
set_option linter.unusedSimpArgs false
def laws_eqInt64SS.l0 : Nat → List (List Int) → List (List Int) → Int → Option (Bool)
 | 0,_,_,_=>none
 | k + 1,x0,x1,x5=>if x5 < (x0.length : Int) then (if 0≤x5 then (if x5 < (x1.length : Int) then ((laws_eqInt64S.f k (rd_L7 x0 x5) (rd_L7 x1 x5)).bind fun t412=>(if t412 = true then (laws_eqInt64SS.l0 k x0 x1 (wrap64 (x5 + 1))) else (some false))) else (none)) else (none)) else (some true)
def laws_eqInt64SS.f (k : Nat) (l0 : List (List Int)) (l1 : List (List Int)) : Option (Bool) := if (l0.length : Int) = (l1.length : Int) then (laws_eqInt64SS.l0 k l0 l1 0) else (some false)
theorem laws_eqInt64SS.mono_l : ∀ k, (∀ y0 y1 y2, LeO (laws_eqInt64SS.l0 k y0 y1 y2) (laws_eqInt64SS.l0 (k + 1) y0 y1 y2))
 | 0=>fun _ _ _ r h=>by simp [laws_eqInt64SS.l0] at h
 | k + 1=>by
  have ih0:=laws_eqInt64SS.mono_l k
  ·
   intro y0 y1 y2
   unfold laws_eqInt64SS.l0
   repeat' first
   | (with_reducible exact ih0 _ _ _)
   | (with_reducible exact laws_eqInt64S.mono _ _ _)
   | (with_reducible exact LeO.refl _)
   | (with_reducible exact LeO.none _)
   | (with_reducible refine LeO.ite ?_ ?_)
   | (with_reducible refine LeO.bind ?_ (fun _=>?_))
   | exact ih0 _ _ _
   | exact laws_eqInt64S.mono _ _ _
   | exact LeO.none _
   | refine LeO.ite ?_ ?_
   | refine LeO.bind ?_ (fun _=>?_)
theorem laws_eqInt64SS.mono : ∀ a0 a1 k, LeO (laws_eqInt64SS.f k a0 a1) (laws_eqInt64SS.f (k + 1) a0 a1) := by
 intro a0 a1 k;have ih0:=laws_eqInt64SS.mono_l k
 unfold laws_eqInt64SS.f
 repeat' first
   | (with_reducible exact ih0 _ _ _)
   | (with_reducible exact laws_eqInt64S.mono _ _ _)
   | (with_reducible exact LeO.refl _)
   | (with_reducible exact LeO.none _)
   | (with_reducible refine LeO.ite ?_ ?_)
   | (with_reducible refine LeO.bind ?_ (fun _=>?_))
   | exact ih0 _ _ _
   | exact laws_eqInt64S.mono _ _ _
   | exact LeO.none _
   | refine LeO.ite ?_ ?_
   | refine LeO.bind ?_ (fun _=>?_)
set_option maxHeartbeats 8000000 in
set_option maxRecDepth 100000 in
theorem laws_eqInt64SS.calls (k : Nat) (A0 : Option Addr) (c0 : Nat) (l0 : List (List Int)) (A1 : Option Addr) (c1 : Nat) (l1 : List (List Int)) (r : Bool) (w : World) (hr0 : Kd.C (Kd.slice 2 (Kd.int .i64)) w A0 l0.length l0) (hc0 : l0.length ≤ c0) (hr1 : Kd.C (Kd.slice 2 (Kd.int .i64)) w A1 l1.length l1) (hc1 : l1.length ≤ c1) (h : laws_eqInt64SS.f k l0 l1 = some r) :
  Calls Try.prog 8 #[.slice A0 l0.length c0,.slice A1 l1.length c1] w fun e w'=>e = .returned (.bool r) ∧ Drawn0 w w':=by
 have HR0:=am_ hr0;have HC0:=am_ hc0;clear hr0 hc0;have HR1:=am_ hr1;have HC1:=am_ hc1;clear hr1 hc1;have H : (if (l0.length : Int) = (l1.length : Int) then (laws_eqInt64SS.l0 k l0 l1 0) else (some false)) = some r:=h;clear h
 by_cases c3 : (l0.length : Int) = (l1.length : Int)
 ·
  rw [if_pos c3] at H;have c3b0 : ((l0.length : Int) == (l1.length : Int)) = true:=beq_iff_eq.mpr c3;have c3b1 : ((l0.length : Int) != (l1.length : Int)) = false:=bne_eq_false_iff_eq.mpr c3;have c3b2 : (l0.length == l1.length) = true:=by first|simpa using c3|(simp at c3 ⊢;omega)
  clear c3;have H':=am_ H;clear H
  go_enter Try.func8,Try.ntmps8
  go_wp2
  repeat (go_quiet (fail);try go_wp2)
  go_loopg [5] k (fun kq v5 w'=>∃ (x5_1 : Int),v5 = .int .i64 x5_1 ∧ Aside0 (laws_eqInt64SS.l0 kq l0 l1 x5_1 = some r) ∧ Aside0 (kq≤k) ∧ Drawn0 w w')
  case atStart=>exact ⟨(0),(by first|rfl|(simp;done)|(simp [*];done)),H',⟨Nat.le_refl _⟩,by repeat (first|exact Drawn0.refl _|apply Drawn0.step)⟩
  case round =>
   clear H';(try clear c1 p2 c3 c3b0 c3b1 c3b2);obtain ⟨x5_1,rfl,HA,HK1,⟨m1,rfl⟩⟩:=hrel
   cases gk with
   | zero=>exact absurd HA.out (by simp [laws_eqInt64SS.l0])
   | succ k1 =>
    have H:=HA.out;clear HA;simp only [laws_eqInt64SS.l0] at H
    by_cases c4 : x5_1 < (l0.length : Int)
    ·
     rw [if_pos c4] at H;have c4b0 : decide (x5_1 < (l0.length : Int)) = true:=decide_eq_true c4;clear c4
     by_cases c5 : 0≤x5_1
     ·
      rw [if_pos c5] at H;have c5b0 : decide (0≤x5_1) = true:=decide_eq_true c5;clear c5
      by_cases c6 : x5_1 < (l1.length : Int)
      ·
       rw [if_pos c6] at H;have c6b0 : decide (x5_1 < (l1.length : Int)) = true:=decide_eq_true c6;clear c6;replace H:=Option.bind_eq_some_iff.mp H;obtain ⟨t412,A70,H⟩:=H;replace H : (if t412 = true then (laws_eqInt64SS.l0 k1 l0 l1 (wrap64 (x5_1 + 1))) else (some false)) = some r:=H;have A7:=am_ A70;clear A70
       by_cases c8 : t412 = true
       ·
        subst c8;have H1 : (laws_eqInt64SS.l0 k1 l0 l1 (wrap64 (x5_1 + 1))) = some r:=by rw [if_pos rfl] at H;exact H
        clear H;have H:=H1;clear H1;have H':=am_ H;clear H;have p410 : 0≤(x5_1 : Int):=od_ (by first|(with_reducible assumption)|assumption);have q410 : x5_1 < (l0.length : Int):=od_ (by first|(with_reducible assumption)|assumption);obtain ⟨ad410,A410_0,c410_0,e410,hx410_0,hl410_0,hi410_0⟩:=at_L7 HR0.out x5_1 p410 q410
        cases e410
        have HR410_0:=am_ hi410_0;have HC410_0:=am_ hl410_0;clear hi410_0 hl410_0;replace p410:=eq_true p410;replace q410:=eq_true q410;have p411 : 0≤(x5_1 : Int):=od_ (by first|(with_reducible assumption)|assumption);have q411 : x5_1 < (l1.length : Int):=od_ (by first|(with_reducible assumption)|assumption);obtain ⟨ad411,A411_0,c411_0,e411,hx411_0,hl411_0,hi411_0⟩:=at_L7 HR1.out x5_1 p411 q411
        cases e411
        have HR411_0:=am_ hi411_0;have HC411_0:=am_ hl411_0;clear hi411_0 hl411_0;replace p411:=eq_true p411;replace q411:=eq_true q411
        go_wp2_with (first|(go_at_call 21;(with_reducible refine (laws_eqInt64S.calls k1 _ _ (rd_L7 l0 x5_1) _ _ (rd_L7 l1 x5_1) true _ ?side1 ?side2 ?side3 ?side4 A7.out).mono ?_);(case side1=>repeat (first|exact HR410_0.out|(with_reducible refine Kd.C_alloc ?_ _)|(with_reducible refine Kd.C_drewN ?_ _)|(with_reducible refine Kd.C_drew ?_)));(case side2=>exact HC410_0.out);(case side3=>repeat (first|exact HR411_0.out|(with_reducible refine Kd.C_alloc ?_ _)|(with_reducible refine Kd.C_drewN ?_ _)|(with_reducible refine Kd.C_drew ?_)));(case side4=>exact HC411_0.out);rintro e w' ⟨rfl,⟨nd,rfl⟩⟩;(try first|exact ⟨rfl,_,World.drewN_drewN _ _ _⟩|exact ⟨rfl,_,Eq.trans (World.drewN_drewN _ _ _) (congrArg (World.drewN _) (Nat.add_assoc _ _ _))⟩)))
        repeat (go_quiet (first|(go_at_call 21;(with_reducible refine (laws_eqInt64S.calls k1 _ _ (rd_L7 l0 x5_1) _ _ (rd_L7 l1 x5_1) true _ ?side1 ?side2 ?side3 ?side4 A7.out).mono ?_);(case side1=>repeat (first|exact HR410_0.out|(with_reducible refine Kd.C_alloc ?_ _)|(with_reducible refine Kd.C_drewN ?_ _)|(with_reducible refine Kd.C_drew ?_)));(case side2=>exact HC410_0.out);(case side3=>repeat (first|exact HR411_0.out|(with_reducible refine Kd.C_alloc ?_ _)|(with_reducible refine Kd.C_drewN ?_ _)|(with_reducible refine Kd.C_drew ?_)));(case side4=>exact HC411_0.out);rintro e w' ⟨rfl,⟨nd,rfl⟩⟩;(try first|exact ⟨rfl,_,World.drewN_drewN _ _ _⟩|exact ⟨rfl,_,Eq.trans (World.drewN_drewN _ _ _) (congrArg (World.drewN _) (Nat.add_assoc _ _ _))⟩)));try go_wp2_with (first|(go_at_call 21;(with_reducible refine (laws_eqInt64S.calls k1 _ _ (rd_L7 l0 x5_1) _ _ (rd_L7 l1 x5_1) true _ ?side1 ?side2 ?side3 ?side4 A7.out).mono ?_);(case side1=>repeat (first|exact HR410_0.out|(with_reducible refine Kd.C_alloc ?_ _)|(with_reducible refine Kd.C_drewN ?_ _)|(with_reducible refine Kd.C_drew ?_)));(case side2=>exact HC410_0.out);(case side3=>repeat (first|exact HR411_0.out|(with_reducible refine Kd.C_alloc ?_ _)|(with_reducible refine Kd.C_drewN ?_ _)|(with_reducible refine Kd.C_drew ?_)));(case side4=>exact HC411_0.out);rintro e w' ⟨rfl,⟨nd,rfl⟩⟩;(try first|exact ⟨rfl,_,World.drewN_drewN _ _ _⟩|exact ⟨rfl,_,Eq.trans (World.drewN_drewN _ _ _) (congrArg (World.drewN _) (Nat.add_assoc _ _ _))⟩))))
        go_roundg k1
        case measure=>have:=HK1.out;omega
        case rel=>exact ⟨(wrap64 (x5_1 + 1)),(by first|rfl|(simp;done)|(simp [*];done)),H',⟨by have:=HK1.out;omega⟩,by repeat (first|exact Drawn0.refl _|apply Drawn0.step)⟩
       ·
        replace c8:=Bool.eq_false_iff.mpr c8;subst c8;have H1 : (some false) = some r:=by rw [if_neg (show ¬ (false = true) by decide)] at H;exact H
        clear H;have H:=H1;clear H1;obtain rfl:=Option.some.inj H;have p410 : 0≤(x5_1 : Int):=od_ (by first|(with_reducible assumption)|assumption);have q410 : x5_1 < (l0.length : Int):=od_ (by first|(with_reducible assumption)|assumption);obtain ⟨ad410,A410_0,c410_0,e410,hx410_0,hl410_0,hi410_0⟩:=at_L7 HR0.out x5_1 p410 q410
        cases e410
        have HR410_0:=am_ hi410_0;have HC410_0:=am_ hl410_0;clear hi410_0 hl410_0;replace p410:=eq_true p410;replace q410:=eq_true q410;have p411 : 0≤(x5_1 : Int):=od_ (by first|(with_reducible assumption)|assumption);have q411 : x5_1 < (l1.length : Int):=od_ (by first|(with_reducible assumption)|assumption);obtain ⟨ad411,A411_0,c411_0,e411,hx411_0,hl411_0,hi411_0⟩:=at_L7 HR1.out x5_1 p411 q411
        cases e411
        have HR411_0:=am_ hi411_0;have HC411_0:=am_ hl411_0;clear hi411_0 hl411_0;replace p411:=eq_true p411;replace q411:=eq_true q411
        go_wp2_with (first|(go_at_call 21;(with_reducible refine (laws_eqInt64S.calls k1 _ _ (rd_L7 l0 x5_1) _ _ (rd_L7 l1 x5_1) false _ ?side1 ?side2 ?side3 ?side4 A7.out).mono ?_);(case side1=>repeat (first|exact HR410_0.out|(with_reducible refine Kd.C_alloc ?_ _)|(with_reducible refine Kd.C_drewN ?_ _)|(with_reducible refine Kd.C_drew ?_)));(case side2=>exact HC410_0.out);(case side3=>repeat (first|exact HR411_0.out|(with_reducible refine Kd.C_alloc ?_ _)|(with_reducible refine Kd.C_drewN ?_ _)|(with_reducible refine Kd.C_drew ?_)));(case side4=>exact HC411_0.out);rintro e w' ⟨rfl,⟨nd,rfl⟩⟩;(try first|exact ⟨rfl,_,World.drewN_drewN _ _ _⟩|exact ⟨rfl,_,Eq.trans (World.drewN_drewN _ _ _) (congrArg (World.drewN _) (Nat.add_assoc _ _ _))⟩)))
        repeat (go_quiet (first|(go_at_call 21;(with_reducible refine (laws_eqInt64S.calls k1 _ _ (rd_L7 l0 x5_1) _ _ (rd_L7 l1 x5_1) false _ ?side1 ?side2 ?side3 ?side4 A7.out).mono ?_);(case side1=>repeat (first|exact HR410_0.out|(with_reducible refine Kd.C_alloc ?_ _)|(with_reducible refine Kd.C_drewN ?_ _)|(with_reducible refine Kd.C_drew ?_)));(case side2=>exact HC410_0.out);(case side3=>repeat (first|exact HR411_0.out|(with_reducible refine Kd.C_alloc ?_ _)|(with_reducible refine Kd.C_drewN ?_ _)|(with_reducible refine Kd.C_drew ?_)));(case side4=>exact HC411_0.out);rintro e w' ⟨rfl,⟨nd,rfl⟩⟩;(try first|exact ⟨rfl,_,World.drewN_drewN _ _ _⟩|exact ⟨rfl,_,Eq.trans (World.drewN_drewN _ _ _) (congrArg (World.drewN _) (Nat.add_assoc _ _ _))⟩)));try go_wp2_with (first|(go_at_call 21;(with_reducible refine (laws_eqInt64S.calls k1 _ _ (rd_L7 l0 x5_1) _ _ (rd_L7 l1 x5_1) false _ ?side1 ?side2 ?side3 ?side4 A7.out).mono ?_);(case side1=>repeat (first|exact HR410_0.out|(with_reducible refine Kd.C_alloc ?_ _)|(with_reducible refine Kd.C_drewN ?_ _)|(with_reducible refine Kd.C_drew ?_)));(case side2=>exact HC410_0.out);(case side3=>repeat (first|exact HR411_0.out|(with_reducible refine Kd.C_alloc ?_ _)|(with_reducible refine Kd.C_drewN ?_ _)|(with_reducible refine Kd.C_drew ?_)));(case side4=>exact HC411_0.out);rintro e w' ⟨rfl,⟨nd,rfl⟩⟩;(try first|exact ⟨rfl,_,World.drewN_drewN _ _ _⟩|exact ⟨rfl,_,Eq.trans (World.drewN_drewN _ _ _) (congrArg (World.drewN _) (Nat.add_assoc _ _ _))⟩))))
        go_ret
        exact ⟨by first|rfl|(simp;done)|(simp [*];done),by repeat (first|exact Drawn0.refl _|apply Drawn0.step)⟩
      · rw [if_neg c6] at H;exact absurd H (by simp)
     · rw [if_neg c5] at H;exact absurd H (by simp)
    ·
     rw [if_neg c4] at H;have c4b0 : decide (x5_1 < (l0.length : Int)) = false:=decide_eq_false c4;clear c4;obtain rfl:=Option.some.inj H
     go_wp2
     repeat (go_quiet (fail);try go_wp2)
     go_ret
     exact ⟨by first|rfl|(simp;done)|(simp [*];done),by repeat (first|exact Drawn0.refl _|apply Drawn0.step)⟩
 ·
  rw [if_neg c3] at H;have c3b0 : ((l0.length : Int) == (l1.length : Int)) = false:=beq_eq_false_iff_ne.mpr c3;have c3b1 : ((l0.length : Int) != (l1.length : Int)) = true:=bne_iff_ne.mpr c3;have c3b2 : (l0.length == l1.length) = false:=by first|simpa using c3|(simp at c3 ⊢;omega)
  obtain rfl:=Option.some.inj H
  go_enter Try.func8,Try.ntmps8
  go_wp2
  repeat (go_quiet (fail);try go_wp2)
  go_ret
  exact ⟨by first|rfl|(simp;done)|(simp [*];done),by repeat (first|exact Drawn0.refl _|apply Drawn0.step)⟩
def laws_markInt64SS.marks (a : Int) : Nat → List Int
 | 0=>[]
 | n + 1=>a :: laws_markInt64SS.marks (a + 1) n
theorem laws_markInt64SS.marks_len (a : Int) : ∀ n, (laws_markInt64SS.marks a n).length = n
 | 0=>rfl
 | n + 1=>by rw [laws_markInt64SS.marks,List.length_cons,laws_markInt64SS.marks_len (a + 1) n]
def laws_markInt64SS.upto (l : List (List Int)) (k : Int) : Nat → List (List Int) × Int
 | 0=>(l,k)
 | j + 1=>((laws_markInt64SS.upto l k j).1.set j (laws_markInt64SS.marks (laws_markInt64SS.upto l k j).2 (l.getD j []).length),(laws_markInt64SS.upto l k j).2 + ((l.getD j []).length : Nat))
def laws_markInt64SS.rows (l : List (List Int)) (k : Int) : List (List Int) := (laws_markInt64SS.upto l k l.length).1
def laws_markInt64SS.f (l0 : List (List Int)) (a1 : Int) : Option Int := if 0 ≤ a1 ∧ l0.length ≤ 4611686018427387904 ∧ (laws_markInt64SS.upto l0 a1 l0.length).2 ≤ 4611686018427387904 then some (laws_markInt64SS.upto l0 a1 l0.length).2 else none
theorem laws_markInt64SS.upto_len (l : List (List Int)) (k : Int) : ∀ j, (laws_markInt64SS.upto l k j).1.length = l.length
 | 0=>rfl
 | j + 1=>by rw [laws_markInt64SS.upto,List.length_set,laws_markInt64SS.upto_len l k j]
theorem laws_markInt64SS.rows_len (l : List (List Int)) (k : Int) : (laws_markInt64SS.rows l k).length = l.length := laws_markInt64SS.upto_len l k _
theorem laws_markInt64SS.upto_far (l : List (List Int)) (k : Int) : ∀ (j i : Nat), j ≤ i → (laws_markInt64SS.upto l k j).1[i]? = l[i]?
 | 0,_,_=>rfl
 | j + 1,i,h=>by rw [laws_markInt64SS.upto,List.getElem?_set_ne (by omega),laws_markInt64SS.upto_far l k j i (by omega)]
theorem laws_markInt64SS.upto_ge (l : List (List Int)) (k : Int) (j : Nat) : ∀ d, (laws_markInt64SS.upto l k j).2 ≤ (laws_markInt64SS.upto l k (j + d)).2
 | 0=>Int.le_refl _
 | d + 1=>by
  have:=laws_markInt64SS.upto_ge l k j d
  show _≤(laws_markInt64SS.upto l k (j + d)).2 + _
  omega
theorem laws_markInt64SS.one_run : ∀ (rest done : List Int) (a : Int), 0 ≤ a → a + (done.length + rest.length : Nat) ≤ 4611686018427387905 + done.length → done.length + rest.length ≤ 4611686018427387904 → laws_markInt64S.l0 (rest.length + 1) (done ++ rest) a (done.length : Int) = some (a + (rest.length : Nat), done ++ laws_markInt64SS.marks a rest.length)
 | [],done,a,_,_,_=>by
  rw [laws_markInt64S.l0,if_neg (by simp)]
  simp [laws_markInt64SS.marks]
 | x :: xs,done,a,h0,h1,h2=>by
  simp only [List.length_cons] at h1 h2;have ih:=laws_markInt64SS.one_run xs (done ++ [a]) (a + 1) (by omega) (by simp only [List.length_append,List.length_singleton];omega) (by simp only [List.length_append,List.length_singleton];omega);rw [List.length_append,List.length_singleton] at ih;rw [List.length_cons,laws_markInt64S.l0,if_pos (by simp only [List.length_append,List.length_cons];omega),if_pos (by omega),Int.toNat_natCast];have e1 : (done ++ x :: xs).set done.length a = done ++ [a] ++ xs:=by simp
  have e2 : wrap64 (a + 1) = a + 1:=by unfold wrap64;omega
  have e3 : wrap64 ((done.length : Int) + 1) = ((done.length + 1 : Nat) : Int):=by unfold wrap64;omega
  rw [e1,e2,e3,ih,laws_markInt64SS.marks]
  congr 2
  · omega
  · simp
theorem laws_markInt64SS.int_eq (k : IntKind) (a : Int) : intOf (.int k a) = a := rfl
theorem laws_markInt64SS.less {N x : Nat} {V V' : Value} (h : intOf V = ((x + 1 : Nat) : Int)) (h' : intOf V' = ((x : Nat) : Int)) (hl : x < N) : N - (intOf V).toNat < N - (intOf V').toNat := by
 rw [h,h']
 omega
theorem laws_markInt64SS.wj {j n : Nat} (h : j < n) (hn : n ≤ 4611686018427387904) : wrap64 ((j : Int) + 1) = ((j + 1 : Nat) : Int) := by
 unfold wrap64
 omega
theorem laws_markInt64SS.row_at {e : Nat} {w : World} {base : Nat} {ok : Nat → Prop} {g n cap : Nat} {xs : List (List Int)} (h : Kd.S (Kd.slice 2 (Kd.int .i64)) e w base ok (.slice (some ⟨g, 0, none⟩) n cap) xs) {j : Nat} {p : List Int} (hj : xs[j]? = some p) :
  ∃ (v : Value) (okj : Nat → Prop),w.cell? ⟨g,j,none⟩ = some v ∧ Kd.R (Kd.int .i64) 2 w base okj v p ∧ (∀ k,okj k → ok k) ∧ ∀ w' q,Kd.R (Kd.int .i64) 2 w' base okj v q → Kept w w' okj → Kd.S (Kd.slice 2 (Kd.int .i64)) e w' base ok (.slice (some ⟨g,0,none⟩) n cap) (xs.set j q):=by
 obtain ⟨f,h0,inner,ho,hr⟩:=h;obtain ⟨v,ev,hv⟩:=hr.2 j (p,j) (Kd.zip_at hj);have hjl : j < xs.length:=(List.getElem?_eq_some_iff.1 hj).1;obtain ⟨hlen,hd|⟨g',cap',cur,hd,hb,hh,hn,hcap,hsz,htk⟩⟩:=ho
 · cases hd.1
 ·
  cases hd
  have hsz' : cur.size = cap * 1:=hsz;have hlen' : inner.length = xs.zipIdx.length * 1:=hlen;rw [List.length_zipIdx] at hlen';have htk' : cur.toList.take (xs.zipIdx.length * 1) = inner:=htk;rw [List.length_zipIdx] at htk';have ev' : (inner.drop (j * 1)).take 1 = [v]:=ev;have hin : inner[j]? = some v:=by
   have h4:=congrArg (fun l=>l[0]?) ev'
   simpa [List.getElem?_take,List.getElem?_drop] using h4
  refine ⟨v,fun k=>(ok k ∧ some k ≠ (Value.slice (some ⟨g,0,none⟩) xs.zipIdx.length cap).ownBlock) ∧ f k = j,?_,hv,fun k hk=>hk.1.1,fun w' q hq hk=>?_⟩
  ·
   rw [kC_ hh];rw [← htk',List.getElem?_take_of_lt (by omega)] at hin
   simpa using hin
  ·
   have hg : ¬ ((ok g ∧ some g ≠ (Value.slice (some ⟨g,0,none⟩) xs.zipIdx.length cap).ownBlock) ∧ f g = j):=fun hc=>hc.1.2 rfl
   have hl : (xs.set j q).zipIdx.length = xs.zipIdx.length:=by simp
   refine ⟨f,h0,inner,?_,?_⟩
   · rw [hl];exact ⟨hlen,.inr ⟨g,cap,cur,rfl,hb,(hk.2 g (kL_ hh) hg).trans hh,hn,hcap,hsz,htk⟩⟩
   ·
    refine ⟨by rw [hl];exact hlen,fun i x hx=>?_⟩;rw [List.getElem?_zipIdx,Nat.zero_add] at hx;obtain ⟨y,hy,rfl⟩:=Option.map_eq_some_iff.1 hx
    by_cases e : j = i
    ·
     subst e;rw [List.getElem?_set_self hjl] at hy;obtain rfl:=Option.some.inj hy;exact ⟨v,ev,hq⟩
    · rw [List.getElem?_set_ne e] at hy;have hm:=hr.2 i (y,i) (Kd.zip_at hy);exact Kd.M_step (d:=Kd.slice 2 (Kd.int .i64)) (ok:=fun k=>(ok k ∧ some k ≠ (Value.slice (some ⟨g,0,none⟩) xs.zipIdx.length cap).ownBlock) ∧ f k = i) hm (fun k hk1 hk2=>hk.2 k hk2 (fun hc=>e (hc.2.symm.trans hk1.2)))
set_option maxHeartbeats 8000000 in
set_option maxRecDepth 100000 in
theorem laws_markInt64SS.calls (P0_ : Nat → Prop) (u9000_ : Value) (l0 : List (List Int)) (a1 : Int) (r : Int) (w0 w : World) (hB : Below w0.heap.size w0 w) (ho0 : Kd.S (Kd.slice 2 (Kd.int .i64)) 43 w w0.heap.size P0_ u9000_ l0) (h : laws_markInt64SS.f l0 a1 = some r) :
  Calls Try.prog 11 #[u9000_,.int .i64 a1] w fun e w'=>e = .returned (.int .i64 r) ∧ Kd.S (Kd.slice 2 (Kd.int .i64)) 43 w' w0.heap.size P0_ u9000_ (laws_markInt64SS.rows l0 a1) ∧ Below w0.heap.size w0 w' ∧ Kept w w' P0_:=by
 unfold laws_markInt64SS.f at h
 by_cases hc : 0≤a1 ∧ l0.length≤4611686018427387904 ∧ (laws_markInt64SS.upto l0 a1 l0.length).2≤4611686018427387904
 ·
  rw [if_pos hc] at h;obtain rfl:=Option.some.inj h;clear h;have HCC:=am_ hc;clear hc;obtain ⟨A,c,eA⟩:=Kd.S_slice ho0;subst eA;have HO:=am_ ho0;have HB:=am_ hB;clear ho0 hB
  go_enter Try.func11,Try.ntmps11
  go_wp2
  go_loopw [1,5] (fun a i wr=>∃ j : Nat,j≤l0.length ∧ i = .int .i64 (j : Int) ∧ a = .int .i64 (laws_markInt64SS.upto l0 a1 j).2 ∧ Aside0 (Kd.S (Kd.slice 2 (Kd.int .i64)) 43 wr w0.heap.size P0_ (.slice A l0.length c) (laws_markInt64SS.upto l0 a1 j).1) ∧ Aside0 (Below w0.heap.size w0 wr) ∧ Aside0 (Kept w wr P0_)) (fun _ i _=>l0.length - (intOf i).toNat)
  case atStart=>exact ⟨0,Nat.zero_le _,rfl,rfl,HO,HB,⟨Kept.refl _ _⟩⟩
  case round =>
   clear HO HB;obtain ⟨j,hj,rfl,rfl,HO,HB,HK⟩:=hrel
   by_cases hlt : j < l0.length
   ·
    have p1 : ((j : Int) < (l0.length : Int)) = True:=eq_true (by omega);have p1n : (j < l0.length) = True:=eq_true hlt;have p0 : (0≤(j : Int)) = True:=eq_true (by omega);obtain ⟨p,hp⟩ : ∃ p,l0[j]? = some p:=⟨_,List.getElem?_eq_getElem hlt⟩
    have hup : (laws_markInt64SS.upto l0 a1 j).1[j]? = some p:=(laws_markInt64SS.upto_far l0 a1 j j (Nat.le_refl _)).trans hp;obtain ⟨g2,cap2,e2,-⟩:=Kd.S_form HO.out (by rw [laws_markInt64SS.upto_len];omega)
    injection e2 with e3 e4 e5
    subst e3;obtain ⟨v,okj,hcell,hR,hokj,hset⟩:=laws_markInt64SS.row_at HO.out hup;have hg:=laws_markInt64SS.upto_ge l0 a1 (j + 1) (l0.length - (j + 1));rw [show j + 1 + (l0.length - (j + 1)) = l0.length by omega] at hg;have hg0:=laws_markInt64SS.upto_ge l0 a1 0 j;rw [Nat.zero_add] at hg0;have hgd : l0.getD j [] = p:=by rw [List.getD_eq_getElem?_getD,hp];rfl
    have hs : (laws_markInt64SS.upto l0 a1 (j + 1)).2 = (laws_markInt64SS.upto l0 a1 j).2 + (p.length : Nat):=by rw [laws_markInt64SS.upto,hgd]
    have hs1 : (laws_markInt64SS.upto l0 a1 (j + 1)).1 = (laws_markInt64SS.upto l0 a1 j).1.set j (laws_markInt64SS.marks (laws_markInt64SS.upto l0 a1 j).2 p.length):=by rw [laws_markInt64SS.upto,hgd]
    have h00 : (laws_markInt64SS.upto l0 a1 0).2 = a1:=rfl;have hc0:=HCC.out.1;have hc2:=HCC.out.2.2;have hrun:=laws_markInt64SS.one_run p [] (laws_markInt64SS.upto l0 a1 j).2 (by omega) (by simp only [List.length_nil];omega) (by simp only [List.length_nil];omega);rw [List.nil_append,List.nil_append] at hrun;have hrun2 : laws_markInt64S.f (p.length + 1) p (laws_markInt64SS.upto l0 a1 j).2 = some ((laws_markInt64SS.upto l0 a1 j).2 + (p.length : Nat),laws_markInt64SS.marks (laws_markInt64SS.upto l0 a1 j).2 p.length):=hrun;have HRUN:=am_ hrun2;have HR:=am_ hR;have HOK:=am_ hokj;have HSET:=am_ hset;have HS:=am_ hs;have HS1:=am_ hs1;clear hrun hrun2 hR hokj hset hs hs1 hg hg0 hgd h00 hc0 hc2 hup hp e4 e5
    go_wp2_with (go_at_call 24;refine (laws_markInt64S.calls _ okj v p _ _ _ w0 _ HB.out HR.out HRUN.out).mono ?_;rintro e w' ⟨rfl,hR',hB',hK'⟩)
    have hwj:=laws_markInt64SS.wj hlt HCC.out.2.1;refine ⟨⟨j + 1,hlt,congrArg (Value.int .i64) hwj,congrArg (Value.int .i64) HS.out.symm,⟨?_⟩,⟨hB'⟩,⟨?_⟩⟩,laws_markInt64SS.less (V:=.int .i64 (wrap64 ((j : Int) + 1))) (V':=.int .i64 (j : Int)) ((laws_markInt64SS.int_eq _ _).trans hwj) (laws_markInt64SS.int_eq _ _) hlt⟩
    · rw [HS1.out];exact HSET.out _ _ (Kd.R_reok rfl hR' (fun k hk=>HR.out.1 k hk)) hK'
    · exact ⟨Nat.le_trans HK.out.1 hK'.1,fun i hi hne=>(hK'.2 i (nT_ hi HK.out.1) (fun hc=>hne (HOK.out i hc))).trans (HK.out.2 i hi hne)⟩
   ·
    obtain rfl : j = l0.length:=by omega
    go_wp2
    go_ret
    exact ⟨rfl,HO.out,HB.out,HK.out⟩
 ·
  rw [if_neg hc] at h
  cases h
theorem laws_markInt64SS.split_ {α β : Type} {d : Kd α} {d' : Kd β} {e e' base : Nat} {ok ok' : Nat → Prop} {W w1 : World} {v v' : Value} {xs : List α} {xs' : List β} (ho : Kd.S d e w1 W.heap.size ok v xs) (h4 : Kd.S d' e' W base ok' v' xs') (hb : Below W.heap.size W w1) (hB : base ≤ W.heap.size) :
  ∃ N0 : Nat,Kd.S d' e' w1 base (fun k=>True ∧ k < N0) v' xs' ∧ Kd.S d e w1 base (fun k=>True ∧ N0≤k) v xs :=
 ⟨W.heap.size,Kd.S_mono (Kd.S_old h4 hb) (fun _ h=>⟨trivial,h.2⟩),Kd.S_lower (Kd.S_mono (Kd.S_bound ho) (fun _ h=>⟨trivial,h.2.1⟩)) hB⟩
section
variable {e7 base7 : Nat} {E7 : List Nat} {ok7 : Nat → Prop} {w w' : World}
theorem laws_markInt64SS.apart_R {α : Type} {d : Kd α} {e base : Nat} {ok : Nat → Prop} {v : Value} {xs : List α} (h : d.R e w base ok v xs) (hk : Kept w w' (fun k => ok7 k ∧ base7 ≤ k ∧ k < w.heap.size ∧ ∃ q, q ∈ e7 :: E7 ∧ ∃ cells, w.heap[k]? = some (.cells cells q (0, 0)))) (ht : ∀ q, q ∈ e :: d.E → q ∉ e7 :: E7) : d.R e w' base ok v xs := by
 refine rM_ (Kd.R_step (Kd.R_bound h) (fun k hk1 hl=>hk.2 k hl (fun hP=>?_))) (fun _ h_=>h_.1);obtain ⟨_,_,_,q,hq,cs,hc⟩:=hk1;obtain ⟨_,_,_,q',hq',cs',hc'⟩:=hP;rw [hc] at hc'
 injection hc' with hc'
 injection hc' with h1 h2 h3
 subst h2;exact ht q hq hq'
theorem laws_markInt64SS.apart_S {α : Type} {d : Kd α} {e base N0 : Nat} {v : Value} {xs : List α} (h : Kd.S d e w base (fun k => k < N0) v xs) (hk : Kept w w' (fun k => ok7 k ∧ base7 ≤ k ∧ k < w.heap.size ∧ ∃ q, q ∈ e7 :: E7 ∧ ∃ cells, w.heap[k]? = some (.cells cells q (0, 0)))) (ho : ∀ k, ok7 k → N0 ≤ k) : Kd.S d e w' base (fun k => k < N0) v xs :=
 Kd.S_step h (fun k hk1 hl=>hk.2 k hl (fun hP=>by have:=ho k hP.1;omega))
theorem laws_markInt64SS.apart_blk {g t : Nat} {cs : Array Value} (h : w.heap[g]? = some (.cells cs t (0, 0))) (hk : Kept w w' (fun k => ok7 k ∧ base7 ≤ k ∧ k < w.heap.size ∧ ∃ q, q ∈ e7 :: E7 ∧ ∃ cells, w.heap[k]? = some (.cells cells q (0, 0)))) (ht : t ∉ e7 :: E7) : w'.heap[g]? = some (.cells cs t (0, 0)) := by
 refine (hk.2 g (kL_ h) (fun hP=>?_)).trans h;obtain ⟨_,_,_,q',hq',cs',hc'⟩:=hP;rw [h] at hc'
 injection hc' with hc'
 injection hc' with h1 h2 h3
 subst h2;exact ht hq'
end
def laws_heldInt64SS.l0 : Nat → List (List Int) → Int → Int → Option (Int)
 | 0,_,_,_=>none
 | k + 1,x0,x1,x5=>if x5 < (x0.length : Int) then (if 0≤x5 then ((laws_heldInt64S.f k (rd_L7 x0 x5) x1).bind fun t431=>(if t431 < 0 then (some (-1)) else (laws_heldInt64SS.l0 k x0 t431 (wrap64 (x5 + 1))))) else (none)) else (some x1)
def laws_heldInt64SS.f (k : Nat) (l0 : List (List Int)) (a1 : Int) : Option (Int) := laws_heldInt64SS.l0 k l0 a1 0
theorem laws_heldInt64SS.mono_l : ∀ k, (∀ y0 y1 y2, LeO (laws_heldInt64SS.l0 k y0 y1 y2) (laws_heldInt64SS.l0 (k + 1) y0 y1 y2))
 | 0=>fun _ _ _ r h=>by simp [laws_heldInt64SS.l0] at h
 | k + 1=>by
  have ih0:=laws_heldInt64SS.mono_l k
  ·
   intro y0 y1 y2
   unfold laws_heldInt64SS.l0
   repeat' first
   | (with_reducible exact ih0 _ _ _)
   | (with_reducible exact laws_heldInt64S.mono _ _ _)
   | (with_reducible exact LeO.refl _)
   | (with_reducible exact LeO.none _)
   | (with_reducible refine LeO.ite ?_ ?_)
   | (with_reducible refine LeO.bind ?_ (fun _=>?_))
   | exact ih0 _ _ _
   | exact laws_heldInt64S.mono _ _ _
   | exact LeO.none _
   | refine LeO.ite ?_ ?_
   | refine LeO.bind ?_ (fun _=>?_)
theorem laws_heldInt64SS.mono : ∀ a0 a1 k, LeO (laws_heldInt64SS.f k a0 a1) (laws_heldInt64SS.f (k + 1) a0 a1) := by
 intro a0 a1 k;have ih0:=laws_heldInt64SS.mono_l k
 unfold laws_heldInt64SS.f
 repeat' first
   | (with_reducible exact ih0 _ _ _)
   | (with_reducible exact laws_heldInt64S.mono _ _ _)
   | (with_reducible exact LeO.refl _)
   | (with_reducible exact LeO.none _)
   | (with_reducible refine LeO.ite ?_ ?_)
   | (with_reducible refine LeO.bind ?_ (fun _=>?_))
   | exact ih0 _ _ _
   | exact laws_heldInt64S.mono _ _ _
   | exact LeO.none _
   | refine LeO.ite ?_ ?_
   | refine LeO.bind ?_ (fun _=>?_)
set_option maxHeartbeats 8000000 in
set_option maxRecDepth 100000 in
theorem laws_heldInt64SS.calls (k : Nat) (A0 : Option Addr) (c0 : Nat) (l0 : List (List Int)) (a1 : Int) (r : Int) (w : World) (hr0 : Kd.C (Kd.slice 2 (Kd.int .i64)) w A0 l0.length l0) (hc0 : l0.length ≤ c0) (h : laws_heldInt64SS.f k l0 a1 = some r) :
  Calls Try.prog 12 #[.slice A0 l0.length c0,.int .i64 a1] w fun e w'=>e = .returned (.int .i64 r) ∧ Drawn0 w w':=by
 have HR0:=am_ hr0;have HC0:=am_ hc0;clear hr0 hc0;have H : (laws_heldInt64SS.l0 k l0 a1 0) = some r:=h;clear h;have H':=am_ H;clear H
 go_enter Try.func12,Try.ntmps12
 go_wp2
 go_loopg [1,5] k (fun kq v1 v5 w'=>∃ (x1_1 : Int) (x5_1 : Int),v1 = .int .i64 x1_1 ∧ v5 = .int .i64 x5_1 ∧ Aside0 (laws_heldInt64SS.l0 kq l0 x1_1 x5_1 = some r) ∧ Aside0 (kq≤k) ∧ Drawn0 w w')
 case atStart=>exact ⟨(a1),(0),(by first|rfl|(simp;done)|(simp [*];done)),(by first|rfl|(simp;done)|(simp [*];done)),H',⟨Nat.le_refl _⟩,by repeat (first|exact Drawn0.refl _|apply Drawn0.step)⟩
 case round =>
  clear H';(try clear c1);(try clear p2);obtain ⟨x1_1,x5_1,rfl,rfl,HA,HK1,⟨m1,rfl⟩⟩:=hrel
  cases gk with
  | zero=>exact absurd HA.out (by simp [laws_heldInt64SS.l0])
  | succ k1 =>
   have H:=HA.out;clear HA;simp only [laws_heldInt64SS.l0] at H
   by_cases c3 : x5_1 < (l0.length : Int)
   ·
    rw [if_pos c3] at H;have c3b0 : decide (x5_1 < (l0.length : Int)) = true:=decide_eq_true c3;clear c3
    by_cases c4 : 0≤x5_1
    ·
     rw [if_pos c4] at H;have c4b0 : decide (0≤x5_1) = true:=decide_eq_true c4;clear c4;replace H:=Option.bind_eq_some_iff.mp H;obtain ⟨t431,A50,H⟩:=H;replace H : (if t431 < 0 then (some (-1)) else (laws_heldInt64SS.l0 k1 l0 t431 (wrap64 (x5_1 + 1)))) = some r:=H;have A5:=am_ A50;clear A50
     by_cases c6 : t431 < 0
     ·
      rw [if_pos c6] at H;have c6b0 : decide (t431 < 0) = true:=decide_eq_true c6;clear c6;obtain rfl:=Option.some.inj H;have p430 : 0≤(x5_1 : Int):=od_ (by first|(with_reducible assumption)|assumption);have q430 : x5_1 < (l0.length : Int):=od_ (by first|(with_reducible assumption)|assumption);obtain ⟨ad430,A430_0,c430_0,e430,hx430_0,hl430_0,hi430_0⟩:=at_L7 HR0.out x5_1 p430 q430
      cases e430
      have HR430_0:=am_ hi430_0;have HC430_0:=am_ hl430_0;clear hi430_0 hl430_0;replace p430:=eq_true p430;replace q430:=eq_true q430
      go_wp2_with (first|((with_reducible refine gate_callee (f:=25) rfl ?_);refine goesL_ (some 17) rfl rfl Try.func25 (by kernel_rfl) rfl #[.slice A430_0 (rd_L7 l0 x5_1).length c430_0,.int .i64 x1_1] rfl (by (try simp only [List.map_toArray,List.map_cons,List.map_nil]);first|done|rfl|(simp only [List.length_drop,List.length_take];rfl)) ?_;(with_reducible refine (laws_heldInt64S.calls k1 _ _ (rd_L7 l0 x5_1) x1_1 t431 _ ?side1 ?side2 A5.out).mono ?_);(case side1=>repeat (first|exact HR430_0.out|(with_reducible refine Kd.C_alloc ?_ _)|(with_reducible refine Kd.C_drewN ?_ _)|(with_reducible refine Kd.C_drew ?_)));(case side2=>exact HC430_0.out);rintro e w' ⟨rfl,⟨nd,rfl⟩⟩;refine ⟨_,rfl,?_⟩))
      go_ret
      exact ⟨by first|rfl|(simp;done)|(simp [*];done),by repeat (first|exact Drawn0.refl _|apply Drawn0.step)⟩
     ·
      rw [if_neg c6] at H;have c6b0 : decide (t431 < 0) = false:=decide_eq_false c6;clear c6;have H':=am_ H;clear H;have p430 : 0≤(x5_1 : Int):=od_ (by first|(with_reducible assumption)|assumption);have q430 : x5_1 < (l0.length : Int):=od_ (by first|(with_reducible assumption)|assumption);obtain ⟨ad430,A430_0,c430_0,e430,hx430_0,hl430_0,hi430_0⟩:=at_L7 HR0.out x5_1 p430 q430
      cases e430
      have HR430_0:=am_ hi430_0;have HC430_0:=am_ hl430_0;clear hi430_0 hl430_0;replace p430:=eq_true p430;replace q430:=eq_true q430
      go_wp2_with (first|((with_reducible refine gate_callee (f:=25) rfl ?_);refine goesL_ (some 17) rfl rfl Try.func25 (by kernel_rfl) rfl #[.slice A430_0 (rd_L7 l0 x5_1).length c430_0,.int .i64 x1_1] rfl (by (try simp only [List.map_toArray,List.map_cons,List.map_nil]);first|done|rfl|(simp only [List.length_drop,List.length_take];rfl)) ?_;(with_reducible refine (laws_heldInt64S.calls k1 _ _ (rd_L7 l0 x5_1) x1_1 t431 _ ?side1 ?side2 A5.out).mono ?_);(case side1=>repeat (first|exact HR430_0.out|(with_reducible refine Kd.C_alloc ?_ _)|(with_reducible refine Kd.C_drewN ?_ _)|(with_reducible refine Kd.C_drew ?_)));(case side2=>exact HC430_0.out);rintro e w' ⟨rfl,⟨nd,rfl⟩⟩;refine ⟨_,rfl,?_⟩))
      go_roundg k1
      case measure=>have:=HK1.out;omega
      case rel=>exact ⟨(t431),(wrap64 (x5_1 + 1)),(by first|rfl|(simp;done)|(simp [*];done)),(by first|rfl|(simp;done)|(simp [*];done)),H',⟨by have:=HK1.out;omega⟩,by repeat (first|exact Drawn0.refl _|apply Drawn0.step)⟩
    · rw [if_neg c4] at H;exact absurd H (by simp)
   ·
    rw [if_neg c3] at H;have c3b0 : decide (x5_1 < (l0.length : Int)) = false:=decide_eq_false c3;clear c3;obtain rfl:=Option.some.inj H
    go_wp2
    go_ret
    exact ⟨by first|rfl|(simp;done)|(simp [*];done),by repeat (first|exact Drawn0.refl _|apply Drawn0.step)⟩
end Go.Proofs.Ytljfjljeabcfgaa.Q
