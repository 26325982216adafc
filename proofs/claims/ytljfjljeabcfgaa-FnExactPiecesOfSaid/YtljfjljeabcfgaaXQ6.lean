-- Trimmed by a program.
import Derived.Test.YtljfjljeabcfgaaXQ0
import Derived.Test.YtljfjljeabcfgaaXQ4
namespace Go.Proofs.Ytljfjljeabcfgaa.Q
open RowKit YtljfjljeabcfgaaW.PrintWords YtljfjljeabcfgaaW.PrintLast YtljfjljeabcfgaaW.PrintMore
attribute [local go_sem] max2_int min2_int max_two min_two max_three min_three max_four min_four
set_option linter.unusedVariables false
set_option linter.unusedSimpArgs false
mutual
def spec_l01Beside.l0 : Nat → List (S32) → Int → List Bool → Int → List Int → Option (List Int)
 | 0,_,_,_,_,_=>none
 | k + 1,x0,x1,x7,x8,x139000=>if 0 < (x0.length : Int) then (if x8 < ((rd_T32 x0 0).f1) then (spec_l01Beside.l1 k x0 x1 x7 x8 0 x139000) else (spec_l01Beside.l2 k x0 x1 x7 (([] : List Int)) 0)) else (none)
def spec_l01Beside.l1 : Nat → List (S32) → Int → List Bool → Int → Int → List Int → Option (List Int)
 | 0,_,_,_,_,_,_=>none
 | k + 1,x0,x1,x7,x8,x9,x139000=>if 0 < (x0.length : Int) then (if x9 < ((rd_T32 x0 0).f0) then (if x9 > 0 then (if 0≤x8 then (if x8 < 12 then (if 0≤x9 then (if x9 < 12 then (if x8 * 12 + x9 < (x139000.length : Int) then (spec_l01Beside.j2 k x0 x1 x7 x8 x9 ((rd x139000 (x8 * 12 + x9)) == (wrap64 (x1 + 1))) x139000) else (none)) else (none)) else (none)) else (none)) else (none)) else (spec_l01Beside.j2 k x0 x1 x7 x8 x9 false x139000)) else (spec_l01Beside.l0 k x0 x1 x7 (IntKind.i8.wrap (x8 + 1)) x139000)) else (none)
def spec_l01Beside.j2 : Nat → List (S32) → Int → List Bool → Int → Int → Bool → List Int → Option (List Int)
 | 0,_,_,_,_,_,_,_=>none
 | k + 1,x0,x1,x7,x8,x9,x51,x139000=>if x51 = true then (if 0≤x8 then (if x8 < 12 then (if 0≤(IntKind.i8.wrap (x9 - 1)) then (if (IntKind.i8.wrap (x9 - 1)) < 12 then (if x8 * 12 + (IntKind.i8.wrap (x9 - 1)) < (x139000.length : Int) then (if 0≤(rd x139000 (x8 * 12 + (IntKind.i8.wrap (x9 - 1)))) then (if (rd x139000 (x8 * 12 + (IntKind.i8.wrap (x9 - 1)))) < (x7.length : Int) then (spec_l01Beside.j3 k x0 x1 (x7.set ((rd x139000 (x8 * 12 + (IntKind.i8.wrap (x9 - 1)))) : Int).toNat true) x8 x9 x139000) else (none)) else (none)) else (none)) else (none)) else (none)) else (none)) else (none)) else (spec_l01Beside.j3 k x0 x1 x7 x8 x9 x139000)
def spec_l01Beside.j3 : Nat → List (S32) → Int → List Bool → Int → Int → List Int → Option (List Int)
 | 0,_,_,_,_,_,_=>none
 | k + 1,x0,x1,x7,x8,x9,x139000=>if x9 > 0 then (if 0≤x8 then (if x8 < 12 then (if 0≤(IntKind.i8.wrap (x9 - 1)) then (if (IntKind.i8.wrap (x9 - 1)) < 12 then (if x8 * 12 + (IntKind.i8.wrap (x9 - 1)) < (x139000.length : Int) then (spec_l01Beside.j4 k x0 x1 x7 x8 x9 ((rd x139000 (x8 * 12 + (IntKind.i8.wrap (x9 - 1)))) == (wrap64 (x1 + 1))) x139000) else (none)) else (none)) else (none)) else (none)) else (none)) else (spec_l01Beside.j4 k x0 x1 x7 x8 x9 false x139000)
def spec_l01Beside.j4 : Nat → List (S32) → Int → List Bool → Int → Int → Bool → List Int → Option (List Int)
 | 0,_,_,_,_,_,_,_=>none
 | k + 1,x0,x1,x7,x8,x9,x72,x139000=>if x72 = true then (if 0≤x8 then (if x8 < 12 then (if 0≤x9 then (if x9 < 12 then (if x8 * 12 + x9 < (x139000.length : Int) then (if 0≤(rd x139000 (x8 * 12 + x9)) then (if (rd x139000 (x8 * 12 + x9)) < (x7.length : Int) then (spec_l01Beside.j5 k x0 x1 (x7.set ((rd x139000 (x8 * 12 + x9)) : Int).toNat true) x8 x9 x139000) else (none)) else (none)) else (none)) else (none)) else (none)) else (none)) else (none)) else (spec_l01Beside.j5 k x0 x1 x7 x8 x9 x139000)
def spec_l01Beside.j5 : Nat → List (S32) → Int → List Bool → Int → Int → List Int → Option (List Int)
 | 0,_,_,_,_,_,_=>none
 | k + 1,x0,x1,x7,x8,x9,x139000=>if x8 > 0 then (if 0≤x8 then (if x8 < 12 then (if 0≤x9 then (if x9 < 12 then (if x8 * 12 + x9 < (x139000.length : Int) then (spec_l01Beside.j6 k x0 x1 x7 x8 x9 ((rd x139000 (x8 * 12 + x9)) == (wrap64 (x1 + 1))) x139000) else (none)) else (none)) else (none)) else (none)) else (none)) else (spec_l01Beside.j6 k x0 x1 x7 x8 x9 false x139000)
def spec_l01Beside.j6 : Nat → List (S32) → Int → List Bool → Int → Int → Bool → List Int → Option (List Int)
 | 0,_,_,_,_,_,_,_=>none
 | k + 1,x0,x1,x7,x8,x9,x91,x139000=>if x91 = true then (if 0≤(IntKind.i8.wrap (x8 - 1)) then (if (IntKind.i8.wrap (x8 - 1)) < 12 then (if 0≤x9 then (if x9 < 12 then (if (IntKind.i8.wrap (x8 - 1)) * 12 + x9 < (x139000.length : Int) then (if 0≤(rd x139000 ((IntKind.i8.wrap (x8 - 1)) * 12 + x9)) then (if (rd x139000 ((IntKind.i8.wrap (x8 - 1)) * 12 + x9)) < (x7.length : Int) then ((some (x7.set ((rd x139000 ((IntKind.i8.wrap (x8 - 1)) * 12 + x9)) : Int).toNat true : List Bool)).bind fun y150=>(if x8 > 0 then (if (rd x139000 ((IntKind.i8.wrap (x8 - 1)) * 12 + x9)) = (wrap64 (x1 + 1)) then (if 0≤x8 then (if x8 < 12 then (if x8 * 12 + x9 < (x139000.length : Int) then (if 0≤(rd x139000 (x8 * 12 + x9)) then (if (rd x139000 (x8 * 12 + x9)) < (x7.length : Int) then (spec_l01Beside.l1 k x0 x1 (y150.set ((rd x139000 (x8 * 12 + x9)) : Int).toNat true) x8 (IntKind.i8.wrap (x9 + 1)) x139000) else (none)) else (none)) else (none)) else (none)) else (none)) else (spec_l01Beside.l1 k x0 x1 y150 x8 (IntKind.i8.wrap (x9 + 1)) x139000)) else (spec_l01Beside.l1 k x0 x1 y150 x8 (IntKind.i8.wrap (x9 + 1)) x139000))) else (none)) else (none)) else (none)) else (none)) else (none)) else (none)) else (none)) else (if x8 > 0 then (if 0≤(IntKind.i8.wrap (x8 - 1)) then (if (IntKind.i8.wrap (x8 - 1)) < 12 then (if 0≤x9 then (if x9 < 12 then (if (IntKind.i8.wrap (x8 - 1)) * 12 + x9 < (x139000.length : Int) then (if (rd x139000 ((IntKind.i8.wrap (x8 - 1)) * 12 + x9)) = (wrap64 (x1 + 1)) then (if 0≤x8 then (if x8 < 12 then (if x8 * 12 + x9 < (x139000.length : Int) then (if 0≤(rd x139000 (x8 * 12 + x9)) then (if (rd x139000 (x8 * 12 + x9)) < (x7.length : Int) then (spec_l01Beside.l1 k x0 x1 (x7.set ((rd x139000 (x8 * 12 + x9)) : Int).toNat true) x8 (IntKind.i8.wrap (x9 + 1)) x139000) else (none)) else (none)) else (none)) else (none)) else (none)) else (spec_l01Beside.l1 k x0 x1 x7 x8 (IntKind.i8.wrap (x9 + 1)) x139000)) else (none)) else (none)) else (none)) else (none)) else (none)) else (spec_l01Beside.l1 k x0 x1 x7 x8 (IntKind.i8.wrap (x9 + 1)) x139000))
def spec_l01Beside.l2 : Nat → List (S32) → Int → List Bool → List Int → Int → Option (List Int)
 | 0,_,_,_,_,_=>none
 | k + 1,x0,x1,x7,x10,x11=>if 0 < (x0.length : Int) then (if x11 < (((rd_T32 x0 0).f2).length : Int) then (if 0≤(wrap64 (x11 + 1)) then (if (wrap64 (x11 + 1)) < (x7.length : Int) then (if rdOf false x7 (wrap64 (x11 + 1)) = true then (if x11 = x1 then (spec_l01Beside.l2 k x0 x1 x7 x10 (wrap64 (x11 + 1))) else (if x10.length < 17592186044416 then (spec_l01Beside.l2 k x0 x1 x7 (x10 ++ [x11]) (wrap64 (x11 + 1))) else (none))) else (spec_l01Beside.l2 k x0 x1 x7 x10 (wrap64 (x11 + 1)))) else (none)) else (none)) else (some x10)) else (none)
end
def spec_l01Beside.f (k : Nat) (l0 : List (S32)) (a1 : Int) : Option (List Int) := (spec_l01Lay.f k l0).bind fun bt136 => (if bt136.1.length = 144 then (if 0 < (l0.length : Int) then (if 0 ≤ (wrap64 ((((rd_T32 l0 0).f2).length : Int) + 1)) then (if (wrap64 ((((rd_T32 l0 0).f2).length : Int) + 1) : Int).toNat ≤ 281474976710656 then (spec_l01Beside.l0 k l0 a1 (List.replicate (wrap64 ((((rd_T32 l0 0).f2).length : Int) + 1) : Int).toNat false) 0 bt136.1) else (none)) else (none)) else (none)) else (none))
theorem spec_l01Beside.mono_l : ∀ k, (∀ y0 y1 y2 y3 y4, LeO (spec_l01Beside.l0 k y0 y1 y2 y3 y4) (spec_l01Beside.l0 (k + 1) y0 y1 y2 y3 y4)) ∧ (∀ y0 y1 y2 y3 y4 y5, LeO (spec_l01Beside.l1 k y0 y1 y2 y3 y4 y5) (spec_l01Beside.l1 (k + 1) y0 y1 y2 y3 y4 y5)) ∧ (∀ y0 y1 y2 y3 y4 y5 y6, LeO (spec_l01Beside.j2 k y0 y1 y2 y3 y4 y5 y6) (spec_l01Beside.j2 (k + 1) y0 y1 y2 y3 y4 y5 y6)) ∧ (∀ y0 y1 y2 y3 y4 y5, LeO (spec_l01Beside.j3 k y0 y1 y2 y3 y4 y5) (spec_l01Beside.j3 (k + 1) y0 y1 y2 y3 y4 y5)) ∧ (∀ y0 y1 y2 y3 y4 y5 y6, LeO (spec_l01Beside.j4 k y0 y1 y2 y3 y4 y5 y6) (spec_l01Beside.j4 (k + 1) y0 y1 y2 y3 y4 y5 y6)) ∧ (∀ y0 y1 y2 y3 y4 y5, LeO (spec_l01Beside.j5 k y0 y1 y2 y3 y4 y5) (spec_l01Beside.j5 (k + 1) y0 y1 y2 y3 y4 y5)) ∧ (∀ y0 y1 y2 y3 y4 y5 y6, LeO (spec_l01Beside.j6 k y0 y1 y2 y3 y4 y5 y6) (spec_l01Beside.j6 (k + 1) y0 y1 y2 y3 y4 y5 y6)) ∧ (∀ y0 y1 y2 y3 y4, LeO (spec_l01Beside.l2 k y0 y1 y2 y3 y4) (spec_l01Beside.l2 (k + 1) y0 y1 y2 y3 y4))
 | 0=>⟨fun _ _ _ _ _ r h=>by simp [spec_l01Beside.l0] at h,fun _ _ _ _ _ _ r h=>by simp [spec_l01Beside.l1] at h,fun _ _ _ _ _ _ _ r h=>by simp [spec_l01Beside.j2] at h,fun _ _ _ _ _ _ r h=>by simp [spec_l01Beside.j3] at h,fun _ _ _ _ _ _ _ r h=>by simp [spec_l01Beside.j4] at h,fun _ _ _ _ _ _ r h=>by simp [spec_l01Beside.j5] at h,fun _ _ _ _ _ _ _ r h=>by simp [spec_l01Beside.j6] at h,fun _ _ _ _ _ r h=>by simp [spec_l01Beside.l2] at h⟩
 | k + 1=>by
  obtain ⟨ih0,ih1,ih2,ih3,ih4,ih5,ih6,ih7⟩:=spec_l01Beside.mono_l k;refine ⟨?_,?_,?_,?_,?_,?_,?_,?_⟩
  ·
   intro y0 y1 y2 y3 y4
   unfold spec_l01Beside.l0
   repeat' first
   | (with_reducible exact ih0 _ _ _ _ _)
   | (with_reducible exact ih1 _ _ _ _ _ _)
   | (with_reducible exact ih2 _ _ _ _ _ _ _)
   | (with_reducible exact ih3 _ _ _ _ _ _)
   | (with_reducible exact ih4 _ _ _ _ _ _ _)
   | (with_reducible exact ih5 _ _ _ _ _ _)
   | (with_reducible exact ih6 _ _ _ _ _ _ _)
   | (with_reducible exact ih7 _ _ _ _ _)
   | (with_reducible exact spec_l01Lay.mono _ _)
   | (with_reducible exact LeO.refl _)
   | (with_reducible exact LeO.none _)
   | (with_reducible refine LeO.ite ?_ ?_)
   | (with_reducible refine LeO.bind ?_ (fun _=>?_))
   | exact ih0 _ _ _ _ _
   | exact ih1 _ _ _ _ _ _
   | exact ih2 _ _ _ _ _ _ _
   | exact ih3 _ _ _ _ _ _
   | exact ih4 _ _ _ _ _ _ _
   | exact ih5 _ _ _ _ _ _
   | exact ih6 _ _ _ _ _ _ _
   | exact ih7 _ _ _ _ _
   | exact spec_l01Lay.mono _ _
   | exact LeO.none _
   | refine LeO.ite ?_ ?_
   | refine LeO.bind ?_ (fun _=>?_)
  ·
   intro y0 y1 y2 y3 y4 y5
   unfold spec_l01Beside.l1
   repeat' first
   | (with_reducible exact ih0 _ _ _ _ _)
   | (with_reducible exact ih1 _ _ _ _ _ _)
   | (with_reducible exact ih2 _ _ _ _ _ _ _)
   | (with_reducible exact ih3 _ _ _ _ _ _)
   | (with_reducible exact ih4 _ _ _ _ _ _ _)
   | (with_reducible exact ih5 _ _ _ _ _ _)
   | (with_reducible exact ih6 _ _ _ _ _ _ _)
   | (with_reducible exact ih7 _ _ _ _ _)
   | (with_reducible exact spec_l01Lay.mono _ _)
   | (with_reducible exact LeO.refl _)
   | (with_reducible exact LeO.none _)
   | (with_reducible refine LeO.ite ?_ ?_)
   | (with_reducible refine LeO.bind ?_ (fun _=>?_))
   | exact ih0 _ _ _ _ _
   | exact ih1 _ _ _ _ _ _
   | exact ih2 _ _ _ _ _ _ _
   | exact ih3 _ _ _ _ _ _
   | exact ih4 _ _ _ _ _ _ _
   | exact ih5 _ _ _ _ _ _
   | exact ih6 _ _ _ _ _ _ _
   | exact ih7 _ _ _ _ _
   | exact spec_l01Lay.mono _ _
   | exact LeO.none _
   | refine LeO.ite ?_ ?_
   | refine LeO.bind ?_ (fun _=>?_)
  ·
   intro y0 y1 y2 y3 y4 y5 y6
   unfold spec_l01Beside.j2
   repeat' first
   | (with_reducible exact ih0 _ _ _ _ _)
   | (with_reducible exact ih1 _ _ _ _ _ _)
   | (with_reducible exact ih2 _ _ _ _ _ _ _)
   | (with_reducible exact ih3 _ _ _ _ _ _)
   | (with_reducible exact ih4 _ _ _ _ _ _ _)
   | (with_reducible exact ih5 _ _ _ _ _ _)
   | (with_reducible exact ih6 _ _ _ _ _ _ _)
   | (with_reducible exact ih7 _ _ _ _ _)
   | (with_reducible exact spec_l01Lay.mono _ _)
   | (with_reducible exact LeO.refl _)
   | (with_reducible exact LeO.none _)
   | (with_reducible refine LeO.ite ?_ ?_)
   | (with_reducible refine LeO.bind ?_ (fun _=>?_))
   | exact ih0 _ _ _ _ _
   | exact ih1 _ _ _ _ _ _
   | exact ih2 _ _ _ _ _ _ _
   | exact ih3 _ _ _ _ _ _
   | exact ih4 _ _ _ _ _ _ _
   | exact ih5 _ _ _ _ _ _
   | exact ih6 _ _ _ _ _ _ _
   | exact ih7 _ _ _ _ _
   | exact spec_l01Lay.mono _ _
   | exact LeO.none _
   | refine LeO.ite ?_ ?_
   | refine LeO.bind ?_ (fun _=>?_)
  ·
   intro y0 y1 y2 y3 y4 y5
   unfold spec_l01Beside.j3
   repeat' first
   | (with_reducible exact ih0 _ _ _ _ _)
   | (with_reducible exact ih1 _ _ _ _ _ _)
   | (with_reducible exact ih2 _ _ _ _ _ _ _)
   | (with_reducible exact ih3 _ _ _ _ _ _)
   | (with_reducible exact ih4 _ _ _ _ _ _ _)
   | (with_reducible exact ih5 _ _ _ _ _ _)
   | (with_reducible exact ih6 _ _ _ _ _ _ _)
   | (with_reducible exact ih7 _ _ _ _ _)
   | (with_reducible exact spec_l01Lay.mono _ _)
   | (with_reducible exact LeO.refl _)
   | (with_reducible exact LeO.none _)
   | (with_reducible refine LeO.ite ?_ ?_)
   | (with_reducible refine LeO.bind ?_ (fun _=>?_))
   | exact ih0 _ _ _ _ _
   | exact ih1 _ _ _ _ _ _
   | exact ih2 _ _ _ _ _ _ _
   | exact ih3 _ _ _ _ _ _
   | exact ih4 _ _ _ _ _ _ _
   | exact ih5 _ _ _ _ _ _
   | exact ih6 _ _ _ _ _ _ _
   | exact ih7 _ _ _ _ _
   | exact spec_l01Lay.mono _ _
   | exact LeO.none _
   | refine LeO.ite ?_ ?_
   | refine LeO.bind ?_ (fun _=>?_)
  ·
   intro y0 y1 y2 y3 y4 y5 y6
   unfold spec_l01Beside.j4
   repeat' first
   | (with_reducible exact ih0 _ _ _ _ _)
   | (with_reducible exact ih1 _ _ _ _ _ _)
   | (with_reducible exact ih2 _ _ _ _ _ _ _)
   | (with_reducible exact ih3 _ _ _ _ _ _)
   | (with_reducible exact ih4 _ _ _ _ _ _ _)
   | (with_reducible exact ih5 _ _ _ _ _ _)
   | (with_reducible exact ih6 _ _ _ _ _ _ _)
   | (with_reducible exact ih7 _ _ _ _ _)
   | (with_reducible exact spec_l01Lay.mono _ _)
   | (with_reducible exact LeO.refl _)
   | (with_reducible exact LeO.none _)
   | (with_reducible refine LeO.ite ?_ ?_)
   | (with_reducible refine LeO.bind ?_ (fun _=>?_))
   | exact ih0 _ _ _ _ _
   | exact ih1 _ _ _ _ _ _
   | exact ih2 _ _ _ _ _ _ _
   | exact ih3 _ _ _ _ _ _
   | exact ih4 _ _ _ _ _ _ _
   | exact ih5 _ _ _ _ _ _
   | exact ih6 _ _ _ _ _ _ _
   | exact ih7 _ _ _ _ _
   | exact spec_l01Lay.mono _ _
   | exact LeO.none _
   | refine LeO.ite ?_ ?_
   | refine LeO.bind ?_ (fun _=>?_)
  ·
   intro y0 y1 y2 y3 y4 y5
   unfold spec_l01Beside.j5
   repeat' first
   | (with_reducible exact ih0 _ _ _ _ _)
   | (with_reducible exact ih1 _ _ _ _ _ _)
   | (with_reducible exact ih2 _ _ _ _ _ _ _)
   | (with_reducible exact ih3 _ _ _ _ _ _)
   | (with_reducible exact ih4 _ _ _ _ _ _ _)
   | (with_reducible exact ih5 _ _ _ _ _ _)
   | (with_reducible exact ih6 _ _ _ _ _ _ _)
   | (with_reducible exact ih7 _ _ _ _ _)
   | (with_reducible exact spec_l01Lay.mono _ _)
   | (with_reducible exact LeO.refl _)
   | (with_reducible exact LeO.none _)
   | (with_reducible refine LeO.ite ?_ ?_)
   | (with_reducible refine LeO.bind ?_ (fun _=>?_))
   | exact ih0 _ _ _ _ _
   | exact ih1 _ _ _ _ _ _
   | exact ih2 _ _ _ _ _ _ _
   | exact ih3 _ _ _ _ _ _
   | exact ih4 _ _ _ _ _ _ _
   | exact ih5 _ _ _ _ _ _
   | exact ih6 _ _ _ _ _ _ _
   | exact ih7 _ _ _ _ _
   | exact spec_l01Lay.mono _ _
   | exact LeO.none _
   | refine LeO.ite ?_ ?_
   | refine LeO.bind ?_ (fun _=>?_)
  ·
   intro y0 y1 y2 y3 y4 y5 y6
   unfold spec_l01Beside.j6
   repeat' first
   | (with_reducible exact ih0 _ _ _ _ _)
   | (with_reducible exact ih1 _ _ _ _ _ _)
   | (with_reducible exact ih2 _ _ _ _ _ _ _)
   | (with_reducible exact ih3 _ _ _ _ _ _)
   | (with_reducible exact ih4 _ _ _ _ _ _ _)
   | (with_reducible exact ih5 _ _ _ _ _ _)
   | (with_reducible exact ih6 _ _ _ _ _ _ _)
   | (with_reducible exact ih7 _ _ _ _ _)
   | (with_reducible exact spec_l01Lay.mono _ _)
   | (with_reducible exact LeO.refl _)
   | (with_reducible exact LeO.none _)
   | (with_reducible refine LeO.ite ?_ ?_)
   | (with_reducible refine LeO.bind ?_ (fun _=>?_))
   | exact ih0 _ _ _ _ _
   | exact ih1 _ _ _ _ _ _
   | exact ih2 _ _ _ _ _ _ _
   | exact ih3 _ _ _ _ _ _
   | exact ih4 _ _ _ _ _ _ _
   | exact ih5 _ _ _ _ _ _
   | exact ih6 _ _ _ _ _ _ _
   | exact ih7 _ _ _ _ _
   | exact spec_l01Lay.mono _ _
   | exact LeO.none _
   | refine LeO.ite ?_ ?_
   | refine LeO.bind ?_ (fun _=>?_)
  ·
   intro y0 y1 y2 y3 y4
   unfold spec_l01Beside.l2
   repeat' first
   | (with_reducible exact ih0 _ _ _ _ _)
   | (with_reducible exact ih1 _ _ _ _ _ _)
   | (with_reducible exact ih2 _ _ _ _ _ _ _)
   | (with_reducible exact ih3 _ _ _ _ _ _)
   | (with_reducible exact ih4 _ _ _ _ _ _ _)
   | (with_reducible exact ih5 _ _ _ _ _ _)
   | (with_reducible exact ih6 _ _ _ _ _ _ _)
   | (with_reducible exact ih7 _ _ _ _ _)
   | (with_reducible exact spec_l01Lay.mono _ _)
   | (with_reducible exact LeO.refl _)
   | (with_reducible exact LeO.none _)
   | (with_reducible refine LeO.ite ?_ ?_)
   | (with_reducible refine LeO.bind ?_ (fun _=>?_))
   | exact ih0 _ _ _ _ _
   | exact ih1 _ _ _ _ _ _
   | exact ih2 _ _ _ _ _ _ _
   | exact ih3 _ _ _ _ _ _
   | exact ih4 _ _ _ _ _ _ _
   | exact ih5 _ _ _ _ _ _
   | exact ih6 _ _ _ _ _ _ _
   | exact ih7 _ _ _ _ _
   | exact spec_l01Lay.mono _ _
   | exact LeO.none _
   | refine LeO.ite ?_ ?_
   | refine LeO.bind ?_ (fun _=>?_)
theorem spec_l01Beside.mono : ∀ a0 a1 k, LeO (spec_l01Beside.f k a0 a1) (spec_l01Beside.f (k + 1) a0 a1) := by
 intro a0 a1 k;obtain ⟨ih0,ih1,ih2,ih3,ih4,ih5,ih6,ih7⟩:=spec_l01Beside.mono_l k
 unfold spec_l01Beside.f
 repeat' first
   | (with_reducible exact ih0 _ _ _ _ _)
   | (with_reducible exact ih1 _ _ _ _ _ _)
   | (with_reducible exact ih2 _ _ _ _ _ _ _)
   | (with_reducible exact ih3 _ _ _ _ _ _)
   | (with_reducible exact ih4 _ _ _ _ _ _ _)
   | (with_reducible exact ih5 _ _ _ _ _ _)
   | (with_reducible exact ih6 _ _ _ _ _ _ _)
   | (with_reducible exact ih7 _ _ _ _ _)
   | (with_reducible exact spec_l01Lay.mono _ _)
   | (with_reducible exact LeO.refl _)
   | (with_reducible exact LeO.none _)
   | (with_reducible refine LeO.ite ?_ ?_)
   | (with_reducible refine LeO.bind ?_ (fun _=>?_))
   | exact ih0 _ _ _ _ _
   | exact ih1 _ _ _ _ _ _
   | exact ih2 _ _ _ _ _ _ _
   | exact ih3 _ _ _ _ _ _
   | exact ih4 _ _ _ _ _ _ _
   | exact ih5 _ _ _ _ _ _
   | exact ih6 _ _ _ _ _ _ _
   | exact ih7 _ _ _ _ _
   | exact spec_l01Lay.mono _ _
   | exact LeO.none _
   | refine LeO.ite ?_ ?_
   | refine LeO.bind ?_ (fun _=>?_)
set_option maxHeartbeats 8000000 in
set_option maxRecDepth 100000 in
theorem spec_l01Beside.calls (k : Nat) (A0 : Option Addr) (c0 : Nat) (l0 : List (S32)) (a1 : Int) (r : List Int) (w : World) (hr0 : Kd.C k32 w A0 l0.length l0) (hc0 : l0.length ≤ c0) (h : spec_l01Beside.f k l0 a1 = some r) :
  Calls Try.prog 15 #[.pointer A0,.int .i64 a1] w fun e w'=>∃ v0_ : Value,e = .returned (v0_) ∧ Kd.R (Kd.int .i64) 2 w' w.heap.size (fun _=>True) v0_ r ∧ Below w.heap.size w w':=by
 have hu59:=Try.underlying59;have HR0:=am_ hr0;have HC0:=am_ hc0;clear hr0 hc0;have HB:=am_ (Below.refl w.heap.size w);have H : ((spec_l01Lay.f k l0).bind fun bt136=>(if bt136.1.length = 144 then (if 0 < (l0.length : Int) then (if 0≤(wrap64 ((((rd_T32 l0 0).f2).length : Int) + 1)) then (if (wrap64 ((((rd_T32 l0 0).f2).length : Int) + 1) : Int).toNat≤281474976710656 then (spec_l01Beside.l0 k l0 a1 (List.replicate (wrap64 ((((rd_T32 l0 0).f2).length : Int) + 1) : Int).toNat false) 0 bt136.1) else (none)) else (none)) else (none)) else (none))) = some r:=h;clear h;replace H:=Option.bind_eq_some_iff.mp H;obtain ⟨⟨t136,t137⟩,A30,H⟩:=H;replace H : (if t136.length = 144 then (if 0 < (l0.length : Int) then (if 0≤(wrap64 ((((rd_T32 l0 0).f2).length : Int) + 1)) then (if (wrap64 ((((rd_T32 l0 0).f2).length : Int) + 1) : Int).toNat≤281474976710656 then (spec_l01Beside.l0 k l0 a1 (List.replicate (wrap64 ((((rd_T32 l0 0).f2).length : Int) + 1) : Int).toNat false) 0 t136) else (none)) else (none)) else (none)) else (none)) = some r:=H;have A3:=am_ A30;clear A30
 by_cases c4 : t136.length = 144
 ·
  rw [if_pos c4] at H;have c4b0:=eq_true c4;have c4b1 : decide (t136.length = 144) = true:=decide_eq_true c4;clear c4
  by_cases c5 : 0 < (l0.length : Int)
  ·
   rw [if_pos c5] at H;have c5b0 : decide (0 < (l0.length : Int)) = true:=decide_eq_true c5;have c5b1 : decide (0 < l0.length) = true:=decide_eq_true (by omega);clear c5;obtain ⟨ji6,hji6⟩ : ∃ j_ : Int,(wrap64 ((((rd_T32 l0 0).f2).length : Int) + 1)) = j_:=⟨_,rfl⟩
   replace H : (if 0≤(ji6) then (if (ji6 : Int).toNat≤281474976710656 then (spec_l01Beside.l0 k l0 a1 (List.replicate (ji6 : Int).toNat false) 0 t136) else (none)) else (none)) = some r:=by first|(rw [hji6] at H;exact H)|(simp only [hji6] at H ⊢;exact H)
   (try rw [hji6] at A3);have hji6w : (IntKind.i64.wrap ((((rd_T32 l0 0).f2).length : Int) + 1)) = ji6:=(i64_w _).trans hji6
   by_cases c7 : 0≤(ji6)
   ·
    rw [if_pos c7] at H;have c7b0:=eq_true c7;have c7b1 : decide (0≤(ji6)) = true:=decide_eq_true c7;clear c7
    by_cases c8 : (ji6 : Int).toNat≤281474976710656
    ·
     rw [if_pos c8] at H;have c8b0:=eq_true c8;have c8b1 : decide ((ji6 : Int).toNat≤281474976710656) = true:=decide_eq_true c8;clear c8;obtain ⟨y141,hy141⟩ : ∃ y_ : List Bool,y_ = (List.replicate (ji6 : Int).toNat false):=⟨_,rfl⟩
     replace H : (spec_l01Beside.l0 k l0 a1 y141 0 t136) = some r:=by first|(rw [hy141];with_reducible exact H)|(have H2_:=(Option.bind_some _ _).symm.trans H;rw [hy141];with_reducible exact H2_)|(have H2_:=(Option.bind_some _ _).symm.trans H;with_reducible exact H2_)|with_reducible exact H|(rw [hy141];exact H)|exact H
     have Ny141:=am_ hy141;clear hy141;have H':=am_ H;clear H
     go_enter Try.func15,Try.ntmps15
     go_wp2_with (first|((with_reducible refine gate_callee (f:=26) rfl ?_);refine goesL_ (some 14) rfl rfl Try.func26 (by kernel_rfl) rfl #[.pointer A0] rfl (by (try simp only [List.map_toArray,List.map_cons,List.map_nil]);first|done|rfl|(simp only [List.length_drop,List.length_take];rfl)) ?_;(with_reducible refine (spec_l01Lay.calls k _ c0 l0 t136 t137 _ ?side1 ?side2 A3.out).mono ?_);(case side1=>repeat (first|exact HR0.out|(with_reducible refine Kd.C_alloc ?_ _)|(with_reducible refine Kd.C_drewN ?_ _)|(with_reducible refine Kd.C_drew ?_)));(case side2=>exact HC0.out);rintro e w9 ⟨rfl,hb⟩;refine ⟨_,rfl,?_⟩;replace HB:=am_ (bT_ (by repeat (first|(with_reducible first|exact HB.out|apply bA_|apply bN_|apply bD_)|exact HB.out)) hb);(try clear hb hb2 hk hi))|((with_reducible refine gate_dst (N:=5) rfl ?_);refine box_event ?hg (N:=5) ?hd (cs:=(arrC .i64 (arrZ 144))) (t:=59) ?hr ?_;(case hd=>rfl);(case hg=>rfl);(case hr=>exact arr_alloc rfl .i64 144 (by kernel_rfl));intro gb138 hg w10 hbox hb;have n0_:=am_ (bT_ (by repeat (first|(with_reducible first|exact HB.out|apply bA_|apply bN_|apply bD_)|exact HB.out)) hb);have n1_:=am_ (hbox);have n2_:=am_ ((by rw [hg];exact (bZ_ (by repeat (first|(with_reducible first|exact HB.out|apply bA_|apply bN_|apply bD_)|exact HB.out))) : w.heap.size≤gb138));have n3_:=n2_;clear HB;have HB:=n0_;have BK138:=n1_;have GW138:=n2_;have GE138:=n3_;clear n0_ n1_ n2_ n3_;clear hb hbox hg)|((with_reducible refine gate_store (t:=59) (p:=5) rfl ?_);refine arr_store (p:=5) (v:=?vv_w11) (n:=144) (k:=.i64) (g:=gb138) (l:=(arrZ 144)) (l2:=t136) ?hg ?hn (t:=59) ?ho ?hp ?hv (by (with_reducible repeat (first|apply kN_|apply kD_|apply kA_));exact BK138.out) (by kernel_rfl) (arrZ_length _) (od_ (by first|(with_reducible assumption)|assumption)) ?_;(case ho=>rfl);(case hg=>rfl);(case hn=>rfl);(case hp=>rfl);(case hv=>rfl);intro w11 hg hx;have n0_:=am_ (hx);have n1_:=am_ (Below.grown (by repeat (first|(with_reducible first|exact HB.out|apply bA_|apply bN_|apply bD_|refine bS_ ?_ GE138.out)|exact HB.out)) hg (bZ_ (by repeat (first|(with_reducible first|exact HB.out|apply bA_|apply bN_|apply bD_|refine bS_ ?_ GE138.out)|exact HB.out))) (fun k_ e_=>by cases e_;exact GE138.out));clear BK138;clear HB;have BK138:=n0_;have HB:=n1_;clear n0_ n1_;clear hg hx;have p139 : 0≤(0 : Int):=(by omega);have q139 : 0 < (l0.length : Int):=od_ (by first|(with_reducible assumption)|assumption);obtain ⟨ad139,A139_2,c139_2,e139,hx139_0,hx139_1,hx139_2,hl139_2,hi139_2⟩:=at_T32 HR0.out 0 p139 q139;cases e139;have qi139 : (0 < l0.length) = True:=eq_true (by omega);(try rw [show ((0 : Int)).toNat = 0 from rfl] at hx139_0);(try rw [show 0 * 3 = 0 from rfl] at hx139_0);(try rw [Addr.add_zero'] at hx139_0);(try rw [show ((0 : Int)).toNat = 0 from rfl] at hx139_1);(try rw [show 0 * 3 = 0 from rfl] at hx139_1);(try rw [Addr.add_zero'] at hx139_1);(try rw [show ((0 : Int)).toNat = 0 from rfl] at hx139_2);(try rw [show 0 * 3 = 0 from rfl] at hx139_2);(try rw [Addr.add_zero'] at hx139_2);replace hx139_0:=(HB.out.cell (bl_ w _ hx139_0)).trans hx139_0;replace hx139_1:=(HB.out.cell (bl_ w _ hx139_1)).trans hx139_1;replace hx139_2:=(HB.out.cell (bl_ w _ hx139_2)).trans hx139_2;have HR139_2:=am_ hi139_2;have HC139_2:=am_ hl139_2;clear hi139_2 hl139_2;replace p139:=eq_true p139;replace q139:=eq_true q139;have p140 : 0≤(0 : Int):=(by omega);have q140 : 0 < (l0.length : Int):=od_ (by first|(with_reducible assumption)|assumption);obtain ⟨ad140,A140_2,c140_2,e140,hx140_0,hx140_1,hx140_2,hl140_2,hi140_2⟩:=at_T32 HR0.out 0 p140 q140;obtain rfl : ad139 = ad140:=(by injection e140);have qi140 : (0 < l0.length) = True:=eq_true (by omega);(try rw [show ((0 : Int)).toNat = 0 from rfl] at hx140_0);(try rw [show 0 * 3 = 0 from rfl] at hx140_0);(try rw [Addr.add_zero'] at hx140_0);(try rw [show ((0 : Int)).toNat = 0 from rfl] at hx140_1);(try rw [show 0 * 3 = 0 from rfl] at hx140_1);(try rw [Addr.add_zero'] at hx140_1);(try rw [show ((0 : Int)).toNat = 0 from rfl] at hx140_2);(try rw [show 0 * 3 = 0 from rfl] at hx140_2);(try rw [Addr.add_zero'] at hx140_2);replace hx140_0:=(HB.out.cell (bl_ w _ hx140_0)).trans hx140_0;replace hx140_1:=(HB.out.cell (bl_ w _ hx140_1)).trans hx140_1;replace hx140_2:=(HB.out.cell (bl_ w _ hx140_2)).trans hx140_2;have HR140_2:=am_ hi140_2;have HC140_2:=am_ hl140_2;clear hi140_2 hl140_2;replace p140:=eq_true p140;replace q140:=eq_true q140;have ea_:=Option.some.inj (hx139_2.symm.trans hx140_2);injection ea_ with ea_ en_ ec_;subst ea_;subst ec_;clear en_)|((with_reducible refine gate_dst (N:=23) rfl ?_);refine Kd.R_make Kd.bool _ 4 rfl (N:=23) rfl 62 _ _ rfl ji6 rfl rfl Try.underlying62 (.bool false) 1 info4 rfl (by decide) (by omega) false (ok:=fun _=>True) (okp:=fun _=>True) rfl (fun _ hk=>hk) trivial (od_ (by first|(with_reducible assumption)|assumption)) (Nat.le_trans (Nat.mul_le_mul_right _ (od_ (by first|(with_reducible assumption)|assumption) : ji6.toNat≤281474976710656)) (by omega)) (Below.refl _ _) (Nat.le_refl _) ?_;intro v142 w12 ho13 hb hg_ hnew_;clear hg_ hnew_;(first|rw [← Ny141.out] at ho13|(simp only [Int.reduceToNat] at ho13;rw [← Ny141.out] at ho13));have n0_:=am_ (Kd.R_lower ho13 (bZ_ (by repeat (first|(with_reducible first|exact HB.out|apply bA_|apply bN_|apply bD_|refine bS_ ?_ GE138.out)|exact HB.out))));have n1_:=am_ (kB_ (g:=gb138) (o:=.cells (arrC .i64 t136) 59 (0,0)) (by (with_reducible repeat (first|apply kN_|apply kD_|apply kA_));exact BK138.out) hb);have n2_:=am_ (bT_ (by repeat (first|(with_reducible first|exact HB.out|apply bA_|apply bN_|apply bD_|refine bS_ ?_ GE138.out)|exact HB.out)) hb);clear BK138;clear HB;have HO143:=n0_;have BK138:=n1_;have HB:=n2_;clear n0_ n1_ n2_;clear hb ho13))
     go_loopg [8] k (fun kq v8 w'=>∃ (x7_1 : List Bool) (x8_1 : Int),v8 = .int .i8 x8_1 ∧ Aside0 (spec_l01Beside.l0 kq l0 a1 x7_1 x8_1 t136 = some r) ∧ Aside0 (kq≤k) ∧ Aside0 (Kd.R Kd.bool 4 w' w.heap.size (fun _=>True) v142 x7_1) ∧ Aside0 (w'.heap[gb138]? = some (.cells (arrC .i64 t136) 59 (0,0))) ∧ Aside0 (Below w.heap.size w w'))
     case atStart=>exact ⟨(y141),(0),(by first|rfl|(simp;done)|(simp [*];done)),H',⟨Nat.le_refl _⟩,⟨by (with_reducible repeat (first|apply Kd.R_alloc|apply Kd.R_drewN|apply Kd.R_drew));exact HO143.out⟩,⟨by (with_reducible repeat (first|apply kN_|apply kD_|apply kA_));exact BK138.out⟩,⟨by repeat (first|(with_reducible first|exact HB.out|apply bA_|apply bN_|apply bD_|refine bS_ ?_ GE138.out)|exact HB.out)⟩⟩
     case round =>
      clear H';(try clear c1 p1 q1 hx1 qi1 c2 p2 c4 c4b0 c4b1 c5 c5b0 c5b1 p6 c7 c7b0 c7b1 c8 c8b0 c8b1 c13 p13 q13 hx13 qi13 hx139_0 hx139_1 hx139_2 hx140_0 hx140_1 hx140_2 p139 p140 q139 q140);obtain ⟨x7_1,x8_1,rfl,HA,HK1,HO_7,BK138,HB⟩:=hrel
      cases gk with
      | zero=>exact absurd HA.out (by simp [spec_l01Beside.l0])
      | succ k1 =>
       have H:=HA.out;clear HA;simp only [spec_l01Beside.l0] at H
       by_cases c14 : 0 < (l0.length : Int)
       ·
        rw [if_pos c14] at H;have c14b0 : decide (0 < (l0.length : Int)) = true:=decide_eq_true c14;have c14b1 : decide (0 < l0.length) = true:=decide_eq_true (by omega);clear c14
        by_cases c15 : x8_1 < ((rd_T32 l0 0).f1)
        ·
         rw [if_pos c15] at H;have c15b0 : decide (x8_1 < ((rd_T32 l0 0).f1)) = true:=decide_eq_true c15;clear c15;have H':=am_ H;clear H;have p144 : 0≤(0 : Int):=(by omega)
         have q144 : 0 < (l0.length : Int):=od_ (by first|(with_reducible assumption)|assumption);obtain ⟨ad144,A144_2,c144_2,e144,hx144_0,hx144_1,hx144_2,hl144_2,hi144_2⟩:=at_T32 HR0.out 0 p144 q144;obtain rfl : ad139 = ad144:=(by injection e144)
         have qi144 : (0 < l0.length) = True:=eq_true (by omega);(try rw [show ((0 : Int)).toNat = 0 from rfl] at hx144_0);(try rw [show 0 * 3 = 0 from rfl] at hx144_0);(try rw [Addr.add_zero'] at hx144_0);(try rw [show ((0 : Int)).toNat = 0 from rfl] at hx144_1);(try rw [show 0 * 3 = 0 from rfl] at hx144_1);(try rw [Addr.add_zero'] at hx144_1);(try rw [show ((0 : Int)).toNat = 0 from rfl] at hx144_2);(try rw [show 0 * 3 = 0 from rfl] at hx144_2);(try rw [Addr.add_zero'] at hx144_2);replace hx144_0:=(HB.out.cell (bl_ w _ hx144_0)).trans hx144_0;replace hx144_1:=(HB.out.cell (bl_ w _ hx144_1)).trans hx144_1;replace hx144_2:=(HB.out.cell (bl_ w _ hx144_2)).trans hx144_2;have HR144_2:=am_ hi144_2;have HC144_2:=am_ hl144_2;clear hi144_2 hl144_2;replace p144:=eq_true p144;replace q144:=eq_true q144;have p145 : 0≤(0 : Int):=(by omega)
         have q145 : 0 < (l0.length : Int):=od_ (by first|(with_reducible assumption)|assumption);obtain ⟨ad145,A145_2,c145_2,e145,hx145_0,hx145_1,hx145_2,hl145_2,hi145_2⟩:=at_T32 HR0.out 0 p145 q145;obtain rfl : ad139 = ad145:=(by injection e145)
         have qi145 : (0 < l0.length) = True:=eq_true (by omega);(try rw [show ((0 : Int)).toNat = 0 from rfl] at hx145_0);(try rw [show 0 * 3 = 0 from rfl] at hx145_0);(try rw [Addr.add_zero'] at hx145_0);(try rw [show ((0 : Int)).toNat = 0 from rfl] at hx145_1);(try rw [show 0 * 3 = 0 from rfl] at hx145_1);(try rw [Addr.add_zero'] at hx145_1);(try rw [show ((0 : Int)).toNat = 0 from rfl] at hx145_2);(try rw [show 0 * 3 = 0 from rfl] at hx145_2);(try rw [Addr.add_zero'] at hx145_2);replace hx145_0:=(HB.out.cell (bl_ w _ hx145_0)).trans hx145_0;replace hx145_1:=(HB.out.cell (bl_ w _ hx145_1)).trans hx145_1;replace hx145_2:=(HB.out.cell (bl_ w _ hx145_2)).trans hx145_2;have HR145_2:=am_ hi145_2;have HC145_2:=am_ hl145_2;clear hi145_2 hl145_2;replace p145:=eq_true p145;replace q145:=eq_true q145;have ea_:=Option.some.inj (hx144_2.symm.trans hx145_2)
         injection ea_ with ea_ en_ ec_
         subst ea_;subst ec_;clear en_
         go_wp2
         go_loopg [9] k1 (fun kq v9 w'=>∃ (x7_2 : List Bool) (x9_2 : Int),v9 = .int .i8 x9_2 ∧ Aside0 (spec_l01Beside.l1 kq l0 a1 x7_2 x8_1 x9_2 t136 = some r) ∧ Aside0 (kq≤k1) ∧ Aside0 (Kd.R Kd.bool 4 w' w.heap.size (fun _=>True) v142 x7_2) ∧ Aside0 (w'.heap[gb138]? = some (.cells (arrC .i64 t136) 59 (0,0))) ∧ Aside0 (Below w.heap.size w w'))
         case atStart=>exact ⟨(x7_1),(0),(by first|rfl|(simp;done)|(simp [*];done)),H',⟨Nat.le_refl _⟩,⟨by (with_reducible repeat (first|apply Kd.R_alloc|apply Kd.R_drewN|apply Kd.R_drew));exact HO_7.out⟩,⟨by (with_reducible repeat (first|apply kN_|apply kD_|apply kA_));exact BK138.out⟩,⟨by repeat (first|(with_reducible first|exact HB.out|apply bA_|apply bN_|apply bD_|refine bS_ ?_ GE138.out)|exact HB.out)⟩⟩
         case round =>
          clear H';(try clear c1 p1 q1 hx1 qi1 c2 p2 c4 c4b0 c4b1 c5 c5b0 c5b1 p6 c7 c7b0 c7b1 c8 c8b0 c8b1 c13 p13 q13 hx13 qi13 c14 c14b0 c14b1 p14 q14 hx14 qi14 c15 c15b0 hx139_0 hx139_1 hx139_2 hx140_0 hx140_1 hx140_2 hx144_0 hx144_1 hx144_2 hx145_0 hx145_1 hx145_2 p1 p13 p139 p140 p144 p145 p2 p6 q1 q13 q139 q140 q144 q145);obtain ⟨x7_2,x9_2,rfl,HA,HK2,HO_7,BK138,HB⟩:=hrel
          cases gk with
          | zero=>exact absurd HA.out (by simp [spec_l01Beside.l1])
          | succ k2 =>
           have H:=HA.out;clear HA;simp only [spec_l01Beside.l1] at H
           by_cases c16 : 0 < (l0.length : Int)
           ·
            rw [if_pos c16] at H;have c16b0 : decide (0 < (l0.length : Int)) = true:=decide_eq_true c16;have c16b1 : decide (0 < l0.length) = true:=decide_eq_true (by omega);clear c16
            by_cases c17 : x9_2 < ((rd_T32 l0 0).f0)
            ·
             rw [if_pos c17] at H;have c17b0 : decide (x9_2 < ((rd_T32 l0 0).f0)) = true:=decide_eq_true c17;clear c17;have HC18:=am_ H;clear H;have p146 : 0≤(0 : Int):=(by omega)
             have q146 : 0 < (l0.length : Int):=od_ (by first|(with_reducible assumption)|assumption);obtain ⟨ad146,A146_2,c146_2,e146,hx146_0,hx146_1,hx146_2,hl146_2,hi146_2⟩:=at_T32 HR0.out 0 p146 q146;obtain rfl : ad139 = ad146:=(by injection e146)
             have qi146 : (0 < l0.length) = True:=eq_true (by omega);(try rw [show ((0 : Int)).toNat = 0 from rfl] at hx146_0);(try rw [show 0 * 3 = 0 from rfl] at hx146_0);(try rw [Addr.add_zero'] at hx146_0);(try rw [show ((0 : Int)).toNat = 0 from rfl] at hx146_1);(try rw [show 0 * 3 = 0 from rfl] at hx146_1);(try rw [Addr.add_zero'] at hx146_1);(try rw [show ((0 : Int)).toNat = 0 from rfl] at hx146_2);(try rw [show 0 * 3 = 0 from rfl] at hx146_2);(try rw [Addr.add_zero'] at hx146_2);replace hx146_0:=(HB.out.cell (bl_ w _ hx146_0)).trans hx146_0;replace hx146_1:=(HB.out.cell (bl_ w _ hx146_1)).trans hx146_1;replace hx146_2:=(HB.out.cell (bl_ w _ hx146_2)).trans hx146_2;have HR146_2:=am_ hi146_2;have HC146_2:=am_ hl146_2;clear hi146_2 hl146_2;replace p146:=eq_true p146;replace q146:=eq_true q146;have p147 : 0≤(0 : Int):=(by omega)
             have q147 : 0 < (l0.length : Int):=od_ (by first|(with_reducible assumption)|assumption);obtain ⟨ad147,A147_2,c147_2,e147,hx147_0,hx147_1,hx147_2,hl147_2,hi147_2⟩:=at_T32 HR0.out 0 p147 q147;obtain rfl : ad139 = ad147:=(by injection e147)
             have qi147 : (0 < l0.length) = True:=eq_true (by omega);(try rw [show ((0 : Int)).toNat = 0 from rfl] at hx147_0);(try rw [show 0 * 3 = 0 from rfl] at hx147_0);(try rw [Addr.add_zero'] at hx147_0);(try rw [show ((0 : Int)).toNat = 0 from rfl] at hx147_1);(try rw [show 0 * 3 = 0 from rfl] at hx147_1);(try rw [Addr.add_zero'] at hx147_1);(try rw [show ((0 : Int)).toNat = 0 from rfl] at hx147_2);(try rw [show 0 * 3 = 0 from rfl] at hx147_2);(try rw [Addr.add_zero'] at hx147_2);replace hx147_0:=(HB.out.cell (bl_ w _ hx147_0)).trans hx147_0;replace hx147_1:=(HB.out.cell (bl_ w _ hx147_1)).trans hx147_1;replace hx147_2:=(HB.out.cell (bl_ w _ hx147_2)).trans hx147_2;have HR147_2:=am_ hi147_2;have HC147_2:=am_ hl147_2;clear hi147_2 hl147_2;replace p147:=eq_true p147;replace q147:=eq_true q147;have ea_:=Option.some.inj (hx146_2.symm.trans hx147_2)
             injection ea_ with ea_ en_ ec_
             subst ea_;subst ec_;clear en_
             go_upto_region 9 with (fail)
             go_cut [51] (fun v51 wc=>∃ (kq : Nat) (x51_17 : Bool),v51 = .bool x51_17 ∧ Aside0 (spec_l01Beside.j2 kq l0 a1 x7_2 x8_1 x9_2 x51_17 t136 = some r) ∧ Aside0 (kq≤k2) ∧ Aside0 (Kd.R Kd.bool 4 wc w.heap.size (fun _=>True) v142 x7_2) ∧ Aside0 (wc.heap[gb138]? = some (.cells (arrC .i64 t136) 59 (0,0))) ∧ Aside0 (Below w.heap.size w wc))
             case first =>
              have H:=HC18.out;clear HC18
              by_cases c19 : x9_2 > 0
              ·
               rw [if_pos c19] at H;have c19b0 : decide (0 < x9_2) = true:=decide_eq_true c19;clear c19
               (first|rw [c19b0]|(simp only [i64_w,i32_w];rw [c19b0])|skip)
               by_cases c20 : 0≤x8_1
               ·
                rw [if_pos c20] at H;have c20b0 : decide (0≤x8_1) = true:=decide_eq_true c20;clear c20
                by_cases c21 : x8_1 < 12
                ·
                 rw [if_pos c21] at H;have c21b0 : decide (x8_1 < 12) = true:=decide_eq_true c21;clear c21
                 by_cases c23 : 0≤x9_2
                 ·
                  rw [if_pos c23] at H;have c23b0 : decide (0≤x9_2) = true:=decide_eq_true c23;clear c23
                  by_cases c24 : x9_2 < 12
                  ·
                   rw [if_pos c24] at H;have c24b0 : decide (x9_2 < 12) = true:=decide_eq_true c24;clear c24
                   by_cases c26 : x8_1 * 12 + x9_2 < (t136.length : Int)
                   ·
                    rw [if_pos c26] at H;have c26b0:=eq_true c26;have c26b1 : decide (x8_1 * 12 + x9_2 < (t136.length : Int)) = true:=decide_eq_true c26;have H':=am_ H;clear H;have p22 : 0≤(x8_1 : Int):=od_ (by first|(with_reducible assumption)|assumption);have q22 : (x8_1 : Int) < (12 : Int):=od_ (by first|(with_reducible assumption)|assumption);replace p22:=eq_true p22;replace q22:=eq_true q22;have p25 : 0≤(x9_2 : Int):=od_ (by first|(with_reducible assumption)|assumption);have q25 : (x9_2 : Int) < (12 : Int):=od_ (by first|(with_reducible assumption)|assumption);replace p25:=eq_true p25;replace q25:=eq_true q25;have haz27 : wr.cell? ⟨gb138,x8_1.toNat * 12 + x9_2.toNat,none⟩ = some (.int .i64 (rd t136 (x8_1 * 12 + x9_2))):=arr_cell (by (with_reducible repeat (first|apply kN_|apply kD_|apply kA_));exact BK138.out) (x8_1 * 12 + x9_2) _ (by have h0_ : (0 : Int)≤x8_1:=od_ (by first|(with_reducible assumption)|assumption);have h1_ : (0 : Int)≤x9_2:=od_ (by first|(with_reducible assumption)|assumption);omega) (od_ (by first|(with_reducible assumption)|assumption))
                    go_wp2
                    go_meet
                    case rel=>exact ⟨_,(((rd t136 (x8_1 * 12 + x9_2)) == (wrap64 (a1 + 1)))),(by first|rfl|(simp;done)|(simp [*];done)),H',⟨by have:=HK1.out;have:=HK2.out;first|omega|exact Nat.le_refl _⟩,⟨by (with_reducible repeat (first|apply Kd.R_alloc|apply Kd.R_drewN|apply Kd.R_drew));exact HO_7.out⟩,⟨by (with_reducible repeat (first|apply kN_|apply kD_|apply kA_));exact BK138.out⟩,⟨by repeat (first|(with_reducible first|exact HB.out|apply bA_|apply bN_|apply bD_|refine bS_ ?_ GE138.out)|exact HB.out)⟩⟩
                   · rw [if_neg c26] at H;exact absurd H (by simp)
                  · rw [if_neg c24] at H;exact absurd H (by simp)
                 · rw [if_neg c23] at H;exact absurd H (by simp)
                · rw [if_neg c21] at H;exact absurd H (by simp)
               · rw [if_neg c20] at H;exact absurd H (by simp)
              ·
               rw [if_neg c19] at H;have c19b0 : decide (0 < x9_2) = false:=decide_eq_false c19;clear c19
               (first|rw [c19b0]|(simp only [i64_w,i32_w];rw [c19b0])|skip)
               have H':=am_ H;clear H
               go_wp2
               go_meet
               case rel=>exact ⟨_,(false),(by first|rfl|(simp;done)|(simp [*];done)),H',⟨by have:=HK1.out;have:=HK2.out;first|omega|exact Nat.le_refl _⟩,⟨by (with_reducible repeat (first|apply Kd.R_alloc|apply Kd.R_drewN|apply Kd.R_drew));exact HO_7.out⟩,⟨by (with_reducible repeat (first|apply kN_|apply kD_|apply kA_));exact BK138.out⟩,⟨by repeat (first|(with_reducible first|exact HB.out|apply bA_|apply bN_|apply bD_|refine bS_ ?_ GE138.out)|exact HB.out)⟩⟩
             case rest =>
              clear HC18;(try clear c1 p1 q1 hx1 qi1 c2 p2 q2 c4 c4b0 c4b1 c5 c5b0 c5b1 p6 c7 c7b0 c7b1 c8 c8b0 c8b1 c13 p13 q13 hx13 qi13 c14 c14b0 c14b1 p14 q14 hx14 qi14 c15 c15b0 c16 c16b0 c16b1 c17 c17b0 c19 c19b0 c20 c20b0 c21 c21b0 p22 q22 c23 c23b0 c24 c24b0 p25 q25 c26 c26b0 c26b1 hx139_0 hx139_1 hx139_2 hx140_0 hx140_1 hx140_2 hx144_0 hx144_1 hx144_2 hx145_0 hx145_1 hx145_2 hx146_0 hx146_1 hx146_2 hx147_0 hx147_1 hx147_2 p1 p13 p139 p14 p140 p144 p145 p146 p147 p2 p22 p25 p6 q1 q13 q139 q14 q140 q144 q145 q146 q147 q22 q25);obtain ⟨kq,x51_17,rfl,HA,HJ17,HO_7,BK138,HB⟩:=hcut
              cases kq with
              | zero=>exact absurd HA.out (by simp [spec_l01Beside.j2])
              | succ kj17 =>
               have H:=HA.out;clear HA;simp only [spec_l01Beside.j2] at H;have HC28:=am_ H;clear H
               go_upto_if 51 with (fail)
               go_cut [] (fun wc=>∃ (kq : Nat) (x7_27 : List Bool),Aside0 (spec_l01Beside.j3 kq l0 a1 x7_27 x8_1 x9_2 t136 = some r) ∧ Aside0 (kq≤kj17) ∧ Aside0 (Kd.R Kd.bool 4 wc w.heap.size (fun _=>True) v142 x7_27) ∧ Aside0 (wc.heap[gb138]? = some (.cells (arrC .i64 t136) 59 (0,0))) ∧ Aside0 (Below w.heap.size w wc))
               case first =>
                have H:=HC28.out;clear HC28
                by_cases c29 : x51_17 = true
                ·
                 subst c29;have H1 : (if 0≤x8_1 then (if x8_1 < 12 then (if 0≤(IntKind.i8.wrap (x9_2 - 1)) then (if (IntKind.i8.wrap (x9_2 - 1)) < 12 then (if x8_1 * 12 + (IntKind.i8.wrap (x9_2 - 1)) < (t136.length : Int) then (if 0≤(rd t136 (x8_1 * 12 + (IntKind.i8.wrap (x9_2 - 1)))) then (if (rd t136 (x8_1 * 12 + (IntKind.i8.wrap (x9_2 - 1)))) < (x7_2.length : Int) then (spec_l01Beside.j3 kj17 l0 a1 (x7_2.set ((rd t136 (x8_1 * 12 + (IntKind.i8.wrap (x9_2 - 1)))) : Int).toNat true) x8_1 x9_2 t136) else (none)) else (none)) else (none)) else (none)) else (none)) else (none)) else (none)) = some r:=by rw [if_pos rfl] at H;exact H
                 clear H;have H:=H1;clear H1
                 by_cases c30 : 0≤x8_1
                 ·
                  rw [if_pos c30] at H;have c30b0 : decide (0≤x8_1) = true:=decide_eq_true c30;clear c30
                  (first|rw [c30b0]|(simp only [i64_w,i32_w];rw [c30b0])|skip)
                  by_cases c31 : x8_1 < 12
                  ·
                   rw [if_pos c31] at H;have c31b0 : decide (x8_1 < 12) = true:=decide_eq_true c31;clear c31;obtain ⟨ji33,hji33⟩ : ∃ j_ : Int,(IntKind.i8.wrap (x9_2 - 1)) = j_:=⟨_,rfl⟩
                   replace H : (if 0≤(ji33) then (if (ji33) < 12 then (if x8_1 * 12 + (ji33) < (t136.length : Int) then (if 0≤(rd t136 (x8_1 * 12 + (ji33))) then (if (rd t136 (x8_1 * 12 + (ji33))) < (x7_2.length : Int) then (spec_l01Beside.j3 kj17 l0 a1 (x7_2.set ((rd t136 (x8_1 * 12 + (ji33))) : Int).toNat true) x8_1 x9_2 t136) else (none)) else (none)) else (none)) else (none)) else (none)) = some r:=by first|(rw [hji33] at H;exact H)|(simp only [hji33] at H ⊢;exact H)
                   by_cases c34 : 0≤(ji33)
                   ·
                    rw [if_pos c34] at H;have c34b0 : decide (0≤(ji33)) = true:=decide_eq_true c34;clear c34
                    by_cases c35 : (ji33) < 12
                    ·
                     rw [if_pos c35] at H;have c35b0 : decide ((ji33) < 12) = true:=decide_eq_true c35;clear c35
                     by_cases c37 : x8_1 * 12 + (ji33) < (t136.length : Int)
                     ·
                      rw [if_pos c37] at H;have c37b0:=eq_true c37;have c37b1 : decide (x8_1 * 12 + (ji33) < (t136.length : Int)) = true:=decide_eq_true c37;obtain ⟨ji38,hji38⟩ : ∃ j_ : Int,(rd t136 (x8_1 * 12 + (ji33))) = j_:=⟨_,rfl⟩
                      replace H : (if 0≤(ji38) then (if (ji38) < (x7_2.length : Int) then (spec_l01Beside.j3 kj17 l0 a1 (x7_2.set ((ji38) : Int).toNat true) x8_1 x9_2 t136) else (none)) else (none)) = some r:=by first|(rw [hji38] at H;exact H)|(simp only [hji38] at H ⊢;exact H)
                      by_cases c39 : 0≤(ji38)
                      ·
                       rw [if_pos c39] at H;have c39b0 : decide (0≤(ji38)) = true:=decide_eq_true c39;clear c39
                       by_cases c40 : (ji38) < (x7_2.length : Int)
                       ·
                        rw [if_pos c40] at H;have c40b0 : decide ((ji38) < (x7_2.length : Int)) = true:=decide_eq_true c40;clear c40;obtain ⟨y148,hy148⟩ : ∃ y_ : List Bool,y_ = (x7_2.set ((ji38) : Int).toNat true):=⟨_,rfl⟩
                        replace H : (spec_l01Beside.j3 kj17 l0 a1 y148 x8_1 x9_2 t136) = some r:=by first|(rw [hy148];with_reducible exact H)|(have H2_:=(Option.bind_some _ _).symm.trans H;rw [hy148];with_reducible exact H2_)|(have H2_:=(Option.bind_some _ _).symm.trans H;with_reducible exact H2_)|with_reducible exact H|(rw [hy148];exact H)|exact H
                        have Ny148:=am_ hy148;clear hy148;have H':=am_ H;clear H;have p32 : 0≤(x8_1 : Int):=od_ (by first|(with_reducible assumption)|assumption);have q32 : (x8_1 : Int) < (12 : Int):=od_ (by first|(with_reducible assumption)|assumption);replace p32:=eq_true p32;replace q32:=eq_true q32;have p36 : 0≤((ji33) : Int):=od_ (by first|(with_reducible assumption)|assumption);have q36 : ((ji33) : Int) < (12 : Int):=od_ (by first|(with_reducible assumption)|assumption);replace p36:=eq_true p36;replace q36:=eq_true q36;have haz42 : wc.cell? ⟨gb138,x8_1.toNat * 12 + (ji33).toNat,none⟩ = some (.int .i64 (rd t136 (x8_1 * 12 + (ji33)))):=arr_cell (by (with_reducible repeat (first|apply kN_|apply kD_|apply kA_));exact BK138.out) (x8_1 * 12 + (ji33)) _ (by have h0_ : (0 : Int)≤x8_1:=od_ (by first|(with_reducible assumption)|assumption);have h1_ : (0 : Int)≤(ji33):=od_ (by first|(with_reducible assumption)|assumption);omega) (od_ (by first|(with_reducible assumption)|assumption));have p41 : 0≤((ji38) : Int):=od_ (by first|(with_reducible assumption)|assumption);have q41 : ((ji38) : Int) < ((x7_2.length : Int) : Int):=od_ (by first|(with_reducible assumption)|assumption);obtain ⟨go41,co41,eo41,gb41,gl41,cl41,HG41⟩:=Kd.R_form HO_7.out (by omega)
                        (first|cases eo41|(injection eo41 with ea_ en_ ec_;(first|subst ea_|(injection ea_ with ea_;subst ea_));subst ec_;clear en_))
                        have GB41:=am_ gb41;have GG41:=am_ HG41;clear gb41 gl41 HG41;obtain ⟨hx41_0,hf41_0⟩:=Kd.R_celln false HO_7.out ((ji38) : Int) p41 q41;replace p41:=eq_true p41;replace q41:=eq_true q41;have HP43:=Kd.R_putg HO_7.out ((ji38) : Int) true
                        go_wp2_with (first|((with_reducible refine gate_store (t:=4) (p:=59) rfl ?_);refine store_event (t:=4) (p:=59) (v:=?vo_w44) (w1:=(wc.setCell ⟨go41,((ji38) : Int).toNat,none⟩ (.bool true))) ?hg ?ho ?hn ?hr ?_;(case ho=>rfl);(case hg=>rfl);(case hn=>rfl);(case hr=>first|(go_simp;done)|(go_simp;rfl));intro w44 hw;have hg : wc.grownBy w44 (some go41):=(by rw [hw];exact HP43.2);have hp_ : Kd.R Kd.bool 4 w44 w.heap.size (fun _=>True) (.slice (some ⟨go41,0,none⟩) x7_2.length co41) y148:=(by rw [hw,Ny148.out];exact HP43.1);clear HP43;have n0_:=am_ (hp_);have n1_:=am_ (blk_grown (g:=gb138) (o:=.cells (arrC .i64 t136) 59 (0,0)) (by (with_reducible repeat (first|apply kN_|apply kD_|apply kA_));exact BK138.out) hg (Kd.R_ne HO_7.out BK138.out (by decide)));have n2_:=am_ ((by rw [hw];exact bS_ (HB.out) GB41.out : Below w.heap.size w w44));clear HO_7;clear BK138;clear HB;have HO_7:=n0_;have BK138:=n1_;have HB:=n2_;clear n0_ n1_ n2_;clear hg hw hp_))
                        go_meet
                        case rel=>exact ⟨_,(y148),H',⟨by have:=HK1.out;have:=HK2.out;have:=HJ17.out;first|omega|exact Nat.le_refl _⟩,⟨by (with_reducible repeat (first|apply Kd.R_alloc|apply Kd.R_drewN|apply Kd.R_drew));exact HO_7.out⟩,⟨by (with_reducible repeat (first|apply kN_|apply kD_|apply kA_));exact BK138.out⟩,⟨by repeat (first|(with_reducible first|exact HB.out|apply bA_|apply bN_|apply bD_|refine bS_ ?_ GE138.out)|exact HB.out)⟩⟩
                       · rw [if_neg c40] at H;exact absurd H (by simp)
                      · rw [if_neg c39] at H;exact absurd H (by simp)
                     · rw [if_neg c37] at H;exact absurd H (by simp)
                    · rw [if_neg c35] at H;exact absurd H (by simp)
                   · rw [if_neg c34] at H;exact absurd H (by simp)
                  · rw [if_neg c31] at H;exact absurd H (by simp)
                 · rw [if_neg c30] at H;exact absurd H (by simp)
                ·
                 replace c29:=Bool.eq_false_iff.mpr c29;subst c29;have H1 : (spec_l01Beside.j3 kj17 l0 a1 x7_2 x8_1 x9_2 t136) = some r:=by rw [if_neg (show ¬ (false = true) by decide)] at H;exact H
                 clear H;have H:=H1;clear H1;have H':=am_ H;clear H
                 go_wp2
                 go_meet
                 case rel=>exact ⟨_,(x7_2),H',⟨by have:=HK1.out;have:=HK2.out;have:=HJ17.out;first|omega|exact Nat.le_refl _⟩,⟨by (with_reducible repeat (first|apply Kd.R_alloc|apply Kd.R_drewN|apply Kd.R_drew));exact HO_7.out⟩,⟨by (with_reducible repeat (first|apply kN_|apply kD_|apply kA_));exact BK138.out⟩,⟨by repeat (first|(with_reducible first|exact HB.out|apply bA_|apply bN_|apply bD_|refine bS_ ?_ GE138.out)|exact HB.out)⟩⟩
               case rest =>
                clear HC28;(try clear c1 p1 q1 hx1 qi1 c2 p2 q2 c3 p3 q3 c4 c4b0 c4b1 p4 q4 hx4 hf4 c5 c5b0 c5b1 p6 c7 c7b0 c7b1 c8 c8b0 c8b1 c13 p13 q13 hx13 qi13 c14 c14b0 c14b1 p14 q14 hx14 qi14 c15 c15b0 c16 c16b0 c16b1 c17 c17b0 c19 c19b0 c20 c20b0 c21 c21b0 p22 q22 c23 c23b0 c24 c24b0 p25 q25 c26 c26b0 c26b1 c29 c30 c30b0 c31 c31b0 p32 q32 c34 c34b0 c35 c35b0 p36 q36 c37 c37b0 c37b1 c39 c39b0 c40 c40b0 p41 q41 hx41 hf41 hx139_0 hx139_1 hx139_2 hx140_0 hx140_1 hx140_2 hx144_0 hx144_1 hx144_2 hx145_0 hx145_1 hx145_2 hx146_0 hx146_1 hx146_2 hx147_0 hx147_1 hx147_2 hx41_0 p1 p13 p139 p14 p140 p144 p145 p146 p147 p2 p22 p25 p32 p36 p41 p6 q1 q13 q139 q14 q140 q144 q145 q146 q147 q2 q22 q25 q32 q36 q41);obtain ⟨kq,x7_27,HA,HJ27,HO_7,BK138,HB⟩:=hcut
                cases kq with
                | zero=>exact absurd HA.out (by simp [spec_l01Beside.j3])
                | succ kj27 =>
                 have H:=HA.out;clear HA;simp only [spec_l01Beside.j3] at H;have HC45:=am_ H;clear H
                 go_upto_region 11 with (fail)
                 go_cut [72] (fun v72 wc=>∃ (kq : Nat) (x72_44 : Bool),v72 = .bool x72_44 ∧ Aside0 (spec_l01Beside.j4 kq l0 a1 x7_27 x8_1 x9_2 x72_44 t136 = some r) ∧ Aside0 (kq≤kj27) ∧ Aside0 (Kd.R Kd.bool 4 wc w.heap.size (fun _=>True) v142 x7_27) ∧ Aside0 (wc.heap[gb138]? = some (.cells (arrC .i64 t136) 59 (0,0))) ∧ Aside0 (Below w.heap.size w wc))
                 case first =>
                  have H:=HC45.out;clear HC45
                  by_cases c46 : x9_2 > 0
                  ·
                   rw [if_pos c46] at H;have c46b0 : decide (0 < x9_2) = true:=decide_eq_true c46;clear c46
                   (first|rw [c46b0]|(simp only [i64_w,i32_w];rw [c46b0])|skip)
                   by_cases c47 : 0≤x8_1
                   ·
                    rw [if_pos c47] at H;have c47b0 : decide (0≤x8_1) = true:=decide_eq_true c47;clear c47
                    by_cases c48 : x8_1 < 12
                    ·
                     rw [if_pos c48] at H;have c48b0 : decide (x8_1 < 12) = true:=decide_eq_true c48;clear c48;obtain ⟨ji50,hji50⟩ : ∃ j_ : Int,(IntKind.i8.wrap (x9_2 - 1)) = j_:=⟨_,rfl⟩
                     replace H : (if 0≤(ji50) then (if (ji50) < 12 then (if x8_1 * 12 + (ji50) < (t136.length : Int) then (spec_l01Beside.j4 kj27 l0 a1 x7_27 x8_1 x9_2 ((rd t136 (x8_1 * 12 + (ji50))) == (wrap64 (a1 + 1))) t136) else (none)) else (none)) else (none)) = some r:=by first|(rw [hji50] at H;exact H)|(simp only [hji50] at H ⊢;exact H)
                     by_cases c51 : 0≤(ji50)
                     ·
                      rw [if_pos c51] at H;have c51b0 : decide (0≤(ji50)) = true:=decide_eq_true c51;clear c51
                      by_cases c52 : (ji50) < 12
                      ·
                       rw [if_pos c52] at H;have c52b0 : decide ((ji50) < 12) = true:=decide_eq_true c52;clear c52
                       by_cases c54 : x8_1 * 12 + (ji50) < (t136.length : Int)
                       ·
                        rw [if_pos c54] at H;have c54b0:=eq_true c54;have c54b1 : decide (x8_1 * 12 + (ji50) < (t136.length : Int)) = true:=decide_eq_true c54;have H':=am_ H;clear H;have p49 : 0≤(x8_1 : Int):=od_ (by first|(with_reducible assumption)|assumption);have q49 : (x8_1 : Int) < (12 : Int):=od_ (by first|(with_reducible assumption)|assumption);replace p49:=eq_true p49;replace q49:=eq_true q49;have p53 : 0≤((ji50) : Int):=od_ (by first|(with_reducible assumption)|assumption);have q53 : ((ji50) : Int) < (12 : Int):=od_ (by first|(with_reducible assumption)|assumption);replace p53:=eq_true p53;replace q53:=eq_true q53;have haz55 : wc.cell? ⟨gb138,x8_1.toNat * 12 + (ji50).toNat,none⟩ = some (.int .i64 (rd t136 (x8_1 * 12 + (ji50)))):=arr_cell (by (with_reducible repeat (first|apply kN_|apply kD_|apply kA_));exact BK138.out) (x8_1 * 12 + (ji50)) _ (by have h0_ : (0 : Int)≤x8_1:=od_ (by first|(with_reducible assumption)|assumption);have h1_ : (0 : Int)≤(ji50):=od_ (by first|(with_reducible assumption)|assumption);omega) (od_ (by first|(with_reducible assumption)|assumption))
                        go_wp2
                        go_meet
                        case rel=>exact ⟨_,(((rd t136 (x8_1 * 12 + (ji50))) == (wrap64 (a1 + 1)))),(by first|rfl|(simp;done)|(simp only [← hji50] <;> (first|rfl|simp))|(simp [*];done)),H',⟨by have:=HK1.out;have:=HK2.out;have:=HJ17.out;have:=HJ27.out;first|omega|exact Nat.le_refl _⟩,⟨by (with_reducible repeat (first|apply Kd.R_alloc|apply Kd.R_drewN|apply Kd.R_drew));exact HO_7.out⟩,⟨by (with_reducible repeat (first|apply kN_|apply kD_|apply kA_));exact BK138.out⟩,⟨by repeat (first|(with_reducible first|exact HB.out|apply bA_|apply bN_|apply bD_|refine bS_ ?_ GE138.out)|exact HB.out)⟩⟩
                       · rw [if_neg c54] at H;exact absurd H (by simp)
                      · rw [if_neg c52] at H;exact absurd H (by simp)
                     · rw [if_neg c51] at H;exact absurd H (by simp)
                    · rw [if_neg c48] at H;exact absurd H (by simp)
                   · rw [if_neg c47] at H;exact absurd H (by simp)
                  ·
                   rw [if_neg c46] at H;have c46b0 : decide (0 < x9_2) = false:=decide_eq_false c46;clear c46
                   (first|rw [c46b0]|(simp only [i64_w,i32_w];rw [c46b0])|skip)
                   have H':=am_ H;clear H
                   go_wp2
                   go_meet
                   case rel=>exact ⟨_,(false),(by first|rfl|(simp;done)|(simp [*];done)),H',⟨by have:=HK1.out;have:=HK2.out;have:=HJ17.out;have:=HJ27.out;first|omega|exact Nat.le_refl _⟩,⟨by (with_reducible repeat (first|apply Kd.R_alloc|apply Kd.R_drewN|apply Kd.R_drew));exact HO_7.out⟩,⟨by (with_reducible repeat (first|apply kN_|apply kD_|apply kA_));exact BK138.out⟩,⟨by repeat (first|(with_reducible first|exact HB.out|apply bA_|apply bN_|apply bD_|refine bS_ ?_ GE138.out)|exact HB.out)⟩⟩
                 case rest =>
                  clear HC45;(try clear c1 p1 q1 hx1 qi1 c2 p2 q2 c3 p3 q3 c4 c4b0 c4b1 p4 q4 hx4 hf4 c5 c5b0 c5b1 p5 q5 p6 c7 c7b0 c7b1 c8 c8b0 c8b1 c13 p13 q13 hx13 qi13 c14 c14b0 c14b1 p14 q14 hx14 qi14 c15 c15b0 c16 c16b0 c16b1 c17 c17b0 c19 c19b0 c20 c20b0 c21 c21b0 p22 q22 c23 c23b0 c24 c24b0 p25 q25 c26 c26b0 c26b1 c29 c30 c30b0 c31 c31b0 p32 q32 c34 c34b0 c35 c35b0 p36 q36 c37 c37b0 c37b1 c39 c39b0 c40 c40b0 p41 q41 hx41 hf41 c46 c46b0 c47 c47b0 c48 c48b0 p49 q49 c51 c51b0 c52 c52b0 p53 q53 c54 c54b0 c54b1 hx139_0 hx139_1 hx139_2 hx140_0 hx140_1 hx140_2 hx144_0 hx144_1 hx144_2 hx145_0 hx145_1 hx145_2 hx146_0 hx146_1 hx146_2 hx147_0 hx147_1 hx147_2 hx41_0 p1 p13 p139 p14 p140 p144 p145 p146 p147 p2 p22 p25 p3 p32 p36 p4 p41 p49 p53 p6 q1 q13 q139 q14 q140 q144 q145 q146 q147 q2 q22 q25 q3 q32 q36 q4 q41 q49 q53);obtain ⟨kq,x72_44,rfl,HA,HJ44,HO_7,BK138,HB⟩:=hcut
                  cases kq with
                  | zero=>exact absurd HA.out (by simp [spec_l01Beside.j4])
                  | succ kj44 =>
                   have H:=HA.out;clear HA;simp only [spec_l01Beside.j4] at H;have HC56:=am_ H;clear H
                   go_upto_if 72 with (fail)
                   go_cut [] (fun wc=>∃ (kq : Nat) (x7_55 : List Bool),Aside0 (spec_l01Beside.j5 kq l0 a1 x7_55 x8_1 x9_2 t136 = some r) ∧ Aside0 (kq≤kj44) ∧ Aside0 (Kd.R Kd.bool 4 wc w.heap.size (fun _=>True) v142 x7_55) ∧ Aside0 (wc.heap[gb138]? = some (.cells (arrC .i64 t136) 59 (0,0))) ∧ Aside0 (Below w.heap.size w wc))
                   case first =>
                    have H:=HC56.out;clear HC56
                    by_cases c57 : x72_44 = true
                    ·
                     subst c57;have H1 : (if 0≤x8_1 then (if x8_1 < 12 then (if 0≤x9_2 then (if x9_2 < 12 then (if x8_1 * 12 + x9_2 < (t136.length : Int) then (if 0≤(rd t136 (x8_1 * 12 + x9_2)) then (if (rd t136 (x8_1 * 12 + x9_2)) < (x7_27.length : Int) then (spec_l01Beside.j5 kj44 l0 a1 (x7_27.set ((rd t136 (x8_1 * 12 + x9_2)) : Int).toNat true) x8_1 x9_2 t136) else (none)) else (none)) else (none)) else (none)) else (none)) else (none)) else (none)) = some r:=by rw [if_pos rfl] at H;exact H
                     clear H;have H:=H1;clear H1
                     by_cases c58 : 0≤x8_1
                     ·
                      rw [if_pos c58] at H;have c58b0 : decide (0≤x8_1) = true:=decide_eq_true c58;clear c58
                      (first|rw [c58b0]|(simp only [i64_w,i32_w];rw [c58b0])|skip)
                      by_cases c59 : x8_1 < 12
                      ·
                       rw [if_pos c59] at H;have c59b0 : decide (x8_1 < 12) = true:=decide_eq_true c59;clear c59
                       by_cases c61 : 0≤x9_2
                       ·
                        rw [if_pos c61] at H;have c61b0 : decide (0≤x9_2) = true:=decide_eq_true c61;clear c61
                        by_cases c62 : x9_2 < 12
                        ·
                         rw [if_pos c62] at H;have c62b0 : decide (x9_2 < 12) = true:=decide_eq_true c62;clear c62
                         by_cases c64 : x8_1 * 12 + x9_2 < (t136.length : Int)
                         ·
                          rw [if_pos c64] at H;have c64b0:=eq_true c64;have c64b1 : decide (x8_1 * 12 + x9_2 < (t136.length : Int)) = true:=decide_eq_true c64;obtain ⟨ji65,hji65⟩ : ∃ j_ : Int,(rd t136 (x8_1 * 12 + x9_2)) = j_:=⟨_,rfl⟩
                          replace H : (if 0≤(ji65) then (if (ji65) < (x7_27.length : Int) then (spec_l01Beside.j5 kj44 l0 a1 (x7_27.set ((ji65) : Int).toNat true) x8_1 x9_2 t136) else (none)) else (none)) = some r:=by first|(rw [hji65] at H;exact H)|(simp only [hji65] at H ⊢;exact H)
                          by_cases c66 : 0≤(ji65)
                          ·
                           rw [if_pos c66] at H;have c66b0 : decide (0≤(ji65)) = true:=decide_eq_true c66;clear c66
                           by_cases c67 : (ji65) < (x7_27.length : Int)
                           ·
                            rw [if_pos c67] at H;have c67b0 : decide ((ji65) < (x7_27.length : Int)) = true:=decide_eq_true c67;clear c67;obtain ⟨y149,hy149⟩ : ∃ y_ : List Bool,y_ = (x7_27.set ((ji65) : Int).toNat true):=⟨_,rfl⟩
                            replace H : (spec_l01Beside.j5 kj44 l0 a1 y149 x8_1 x9_2 t136) = some r:=by first|(rw [hy149];with_reducible exact H)|(have H2_:=(Option.bind_some _ _).symm.trans H;rw [hy149];with_reducible exact H2_)|(have H2_:=(Option.bind_some _ _).symm.trans H;with_reducible exact H2_)|with_reducible exact H|(rw [hy149];exact H)|exact H
                            have Ny149:=am_ hy149;clear hy149;have H':=am_ H;clear H;have p60 : 0≤(x8_1 : Int):=od_ (by first|(with_reducible assumption)|assumption);have q60 : (x8_1 : Int) < (12 : Int):=od_ (by first|(with_reducible assumption)|assumption);replace p60:=eq_true p60;replace q60:=eq_true q60;have p63 : 0≤(x9_2 : Int):=od_ (by first|(with_reducible assumption)|assumption);have q63 : (x9_2 : Int) < (12 : Int):=od_ (by first|(with_reducible assumption)|assumption);replace p63:=eq_true p63;replace q63:=eq_true q63;have haz69 : wc.cell? ⟨gb138,x8_1.toNat * 12 + x9_2.toNat,none⟩ = some (.int .i64 (rd t136 (x8_1 * 12 + x9_2))):=arr_cell (by (with_reducible repeat (first|apply kN_|apply kD_|apply kA_));exact BK138.out) (x8_1 * 12 + x9_2) _ (by have h0_ : (0 : Int)≤x8_1:=od_ (by first|(with_reducible assumption)|assumption);have h1_ : (0 : Int)≤x9_2:=od_ (by first|(with_reducible assumption)|assumption);omega) (od_ (by first|(with_reducible assumption)|assumption));have p68 : 0≤((ji65) : Int):=od_ (by first|(with_reducible assumption)|assumption);have q68 : ((ji65) : Int) < ((x7_27.length : Int) : Int):=od_ (by first|(with_reducible assumption)|assumption);obtain ⟨go68,co68,eo68,gb68,gl68,cl68,HG68⟩:=Kd.R_form HO_7.out (by omega)
                            (first|cases eo68|(injection eo68 with ea_ en_ ec_;(first|subst ea_|(injection ea_ with ea_;subst ea_));subst ec_;clear en_))
                            have GB68:=am_ gb68;have GG68:=am_ HG68;clear gb68 gl68 HG68;obtain ⟨hx68_0,hf68_0⟩:=Kd.R_celln false HO_7.out ((ji65) : Int) p68 q68;replace p68:=eq_true p68;replace q68:=eq_true q68;have HP70:=Kd.R_putg HO_7.out ((ji65) : Int) true
                            go_wp2_with (first|((with_reducible refine gate_store (t:=4) (p:=79) rfl ?_);refine store_event (t:=4) (p:=79) (v:=?vo_w71) (w1:=(wc.setCell ⟨go68,((ji65) : Int).toNat,none⟩ (.bool true))) ?hg ?ho ?hn ?hr ?_;(case ho=>rfl);(case hg=>rfl);(case hn=>rfl);(case hr=>first|(go_simp;done)|(go_simp;rfl));intro w71 hw;have hg : wc.grownBy w71 (some go68):=(by rw [hw];exact HP70.2);have hp_ : Kd.R Kd.bool 4 w71 w.heap.size (fun _=>True) (.slice (some ⟨go68,0,none⟩) x7_27.length co68) y149:=(by rw [hw,Ny149.out];exact HP70.1);clear HP70;have n0_:=am_ (hp_);have n1_:=am_ (blk_grown (g:=gb138) (o:=.cells (arrC .i64 t136) 59 (0,0)) (by (with_reducible repeat (first|apply kN_|apply kD_|apply kA_));exact BK138.out) hg (Kd.R_ne HO_7.out BK138.out (by decide)));have n2_:=am_ ((by rw [hw];exact bS_ (HB.out) GB68.out : Below w.heap.size w w71));clear HO_7;clear BK138;clear HB;have HO_7:=n0_;have BK138:=n1_;have HB:=n2_;clear n0_ n1_ n2_;clear hg hw hp_))
                            go_meet
                            case rel=>exact ⟨_,(y149),H',⟨by have:=HK1.out;have:=HK2.out;have:=HJ17.out;have:=HJ27.out;have:=HJ44.out;first|omega|exact Nat.le_refl _⟩,⟨by (with_reducible repeat (first|apply Kd.R_alloc|apply Kd.R_drewN|apply Kd.R_drew));exact HO_7.out⟩,⟨by (with_reducible repeat (first|apply kN_|apply kD_|apply kA_));exact BK138.out⟩,⟨by repeat (first|(with_reducible first|exact HB.out|apply bA_|apply bN_|apply bD_|refine bS_ ?_ GE138.out)|exact HB.out)⟩⟩
                           · rw [if_neg c67] at H;exact absurd H (by simp)
                          · rw [if_neg c66] at H;exact absurd H (by simp)
                         · rw [if_neg c64] at H;exact absurd H (by simp)
                        · rw [if_neg c62] at H;exact absurd H (by simp)
                       · rw [if_neg c61] at H;exact absurd H (by simp)
                      · rw [if_neg c59] at H;exact absurd H (by simp)
                     · rw [if_neg c58] at H;exact absurd H (by simp)
                    ·
                     replace c57:=Bool.eq_false_iff.mpr c57;subst c57;have H1 : (spec_l01Beside.j5 kj44 l0 a1 x7_27 x8_1 x9_2 t136) = some r:=by rw [if_neg (show ¬ (false = true) by decide)] at H;exact H
                     clear H;have H:=H1;clear H1;have H':=am_ H;clear H
                     go_wp2
                     go_meet
                     case rel=>exact ⟨_,(x7_27),H',⟨by have:=HK1.out;have:=HK2.out;have:=HJ17.out;have:=HJ27.out;have:=HJ44.out;first|omega|exact Nat.le_refl _⟩,⟨by (with_reducible repeat (first|apply Kd.R_alloc|apply Kd.R_drewN|apply Kd.R_drew));exact HO_7.out⟩,⟨by (with_reducible repeat (first|apply kN_|apply kD_|apply kA_));exact BK138.out⟩,⟨by repeat (first|(with_reducible first|exact HB.out|apply bA_|apply bN_|apply bD_|refine bS_ ?_ GE138.out)|exact HB.out)⟩⟩
                   case rest =>
                    clear HC56;(try clear c1 p1 q1 hx1 qi1 c2 p2 q2 c3 p3 q3 c4 c4b0 c4b1 p4 q4 hx4 hf4 c5 c5b0 c5b1 p5 q5 c6 p6 q6 hx6 hf6 c7 c7b0 c7b1 c8 c8b0 c8b1 c13 p13 q13 hx13 qi13 c14 c14b0 c14b1 p14 q14 hx14 qi14 c15 c15b0 c16 c16b0 c16b1 c17 c17b0 c19 c19b0 c20 c20b0 c21 c21b0 p22 q22 c23 c23b0 c24 c24b0 p25 q25 c26 c26b0 c26b1 c29 c30 c30b0 c31 c31b0 p32 q32 c34 c34b0 c35 c35b0 p36 q36 c37 c37b0 c37b1 c39 c39b0 c40 c40b0 p41 q41 hx41 hf41 c46 c46b0 c47 c47b0 c48 c48b0 p49 q49 c51 c51b0 c52 c52b0 p53 q53 c54 c54b0 c54b1 c57 c58 c58b0 c59 c59b0 p60 q60 c61 c61b0 c62 c62b0 p63 q63 c64 c64b0 c64b1 p64 c66 c66b0 c67 c67b0 p68 q68 hx68 hf68 hx139_0 hx139_1 hx139_2 hx140_0 hx140_1 hx140_2 hx144_0 hx144_1 hx144_2 hx145_0 hx145_1 hx145_2 hx146_0 hx146_1 hx146_2 hx147_0 hx147_1 hx147_2 hx41_0 hx68_0 p1 p13 p139 p14 p140 p144 p145 p146 p147 p2 p22 p25 p3 p32 p36 p4 p41 p49 p5 p53 p6 p60 p63 p68 q1 q13 q139 q14 q140 q144 q145 q146 q147 q2 q22 q25 q3 q32 q36 q4 q41 q49 q5 q53 q60 q63 q68);obtain ⟨kq,x7_55,HA,HJ55,HO_7,BK138,HB⟩:=hcut
                    cases kq with
                    | zero=>exact absurd HA.out (by simp [spec_l01Beside.j5])
                    | succ kj55 =>
                     have H:=HA.out;clear HA;simp only [spec_l01Beside.j5] at H;have HC72:=am_ H;clear H
                     go_upto_region 13 with (fail)
                     go_cut [91] (fun v91 wc=>∃ (kq : Nat) (x91_71 : Bool),v91 = .bool x91_71 ∧ Aside0 (spec_l01Beside.j6 kq l0 a1 x7_55 x8_1 x9_2 x91_71 t136 = some r) ∧ Aside0 (kq≤kj55) ∧ Aside0 (Kd.R Kd.bool 4 wc w.heap.size (fun _=>True) v142 x7_55) ∧ Aside0 (wc.heap[gb138]? = some (.cells (arrC .i64 t136) 59 (0,0))) ∧ Aside0 (Below w.heap.size w wc))
                     case first =>
                      have H:=HC72.out;clear HC72
                      by_cases c73 : x8_1 > 0
                      ·
                       rw [if_pos c73] at H;have c73b0 : decide (0 < x8_1) = true:=decide_eq_true c73;clear c73
                       (first|rw [c73b0]|(simp only [i64_w,i32_w];rw [c73b0])|skip)
                       by_cases c74 : 0≤x8_1
                       ·
                        rw [if_pos c74] at H;have c74b0 : decide (0≤x8_1) = true:=decide_eq_true c74;clear c74
                        by_cases c75 : x8_1 < 12
                        ·
                         rw [if_pos c75] at H;have c75b0 : decide (x8_1 < 12) = true:=decide_eq_true c75;clear c75
                         by_cases c77 : 0≤x9_2
                         ·
                          rw [if_pos c77] at H;have c77b0 : decide (0≤x9_2) = true:=decide_eq_true c77;clear c77
                          by_cases c78 : x9_2 < 12
                          ·
                           rw [if_pos c78] at H;have c78b0 : decide (x9_2 < 12) = true:=decide_eq_true c78;clear c78
                           by_cases c80 : x8_1 * 12 + x9_2 < (t136.length : Int)
                           ·
                            rw [if_pos c80] at H;have c80b0:=eq_true c80;have c80b1 : decide (x8_1 * 12 + x9_2 < (t136.length : Int)) = true:=decide_eq_true c80;have H':=am_ H;clear H;have p76 : 0≤(x8_1 : Int):=od_ (by first|(with_reducible assumption)|assumption);have q76 : (x8_1 : Int) < (12 : Int):=od_ (by first|(with_reducible assumption)|assumption);replace p76:=eq_true p76;replace q76:=eq_true q76;have p79 : 0≤(x9_2 : Int):=od_ (by first|(with_reducible assumption)|assumption);have q79 : (x9_2 : Int) < (12 : Int):=od_ (by first|(with_reducible assumption)|assumption);replace p79:=eq_true p79;replace q79:=eq_true q79;have haz81 : wc.cell? ⟨gb138,x8_1.toNat * 12 + x9_2.toNat,none⟩ = some (.int .i64 (rd t136 (x8_1 * 12 + x9_2))):=arr_cell (by (with_reducible repeat (first|apply kN_|apply kD_|apply kA_));exact BK138.out) (x8_1 * 12 + x9_2) _ (by have h0_ : (0 : Int)≤x8_1:=od_ (by first|(with_reducible assumption)|assumption);have h1_ : (0 : Int)≤x9_2:=od_ (by first|(with_reducible assumption)|assumption);omega) (od_ (by first|(with_reducible assumption)|assumption))
                            go_wp2
                            go_meet
                            case rel=>exact ⟨_,(((rd t136 (x8_1 * 12 + x9_2)) == (wrap64 (a1 + 1)))),(by first|rfl|(simp;done)|(simp [*];done)),H',⟨by have:=HK1.out;have:=HK2.out;have:=HJ17.out;have:=HJ27.out;have:=HJ44.out;have:=HJ55.out;first|omega|exact Nat.le_refl _⟩,⟨by (with_reducible repeat (first|apply Kd.R_alloc|apply Kd.R_drewN|apply Kd.R_drew));exact HO_7.out⟩,⟨by (with_reducible repeat (first|apply kN_|apply kD_|apply kA_));exact BK138.out⟩,⟨by repeat (first|(with_reducible first|exact HB.out|apply bA_|apply bN_|apply bD_|refine bS_ ?_ GE138.out)|exact HB.out)⟩⟩
                           · rw [if_neg c80] at H;exact absurd H (by simp)
                          · rw [if_neg c78] at H;exact absurd H (by simp)
                         · rw [if_neg c77] at H;exact absurd H (by simp)
                        · rw [if_neg c75] at H;exact absurd H (by simp)
                       · rw [if_neg c74] at H;exact absurd H (by simp)
                      ·
                       rw [if_neg c73] at H;have c73b0 : decide (0 < x8_1) = false:=decide_eq_false c73;clear c73
                       (first|rw [c73b0]|(simp only [i64_w,i32_w];rw [c73b0])|skip)
                       have H':=am_ H;clear H
                       go_wp2
                       go_meet
                       case rel=>exact ⟨_,(false),(by first|rfl|(simp;done)|(simp [*];done)),H',⟨by have:=HK1.out;have:=HK2.out;have:=HJ17.out;have:=HJ27.out;have:=HJ44.out;have:=HJ55.out;first|omega|exact Nat.le_refl _⟩,⟨by (with_reducible repeat (first|apply Kd.R_alloc|apply Kd.R_drewN|apply Kd.R_drew));exact HO_7.out⟩,⟨by (with_reducible repeat (first|apply kN_|apply kD_|apply kA_));exact BK138.out⟩,⟨by repeat (first|(with_reducible first|exact HB.out|apply bA_|apply bN_|apply bD_|refine bS_ ?_ GE138.out)|exact HB.out)⟩⟩
                     case rest =>
                      clear HC72;(try clear c1 p1 q1 hx1 qi1 c2 p2 q2 c3 p3 q3 c4 c4b0 c4b1 p4 q4 hx4 hf4 c5 c5b0 c5b1 p5 q5 c6 p6 q6 hx6 hf6 c7 c7b0 c7b1 p7 q7 c8 c8b0 c8b1 c13 p13 q13 hx13 qi13 c14 c14b0 c14b1 p14 q14 hx14 qi14 c15 c15b0 c16 c16b0 c16b1 c17 c17b0 c19 c19b0 c20 c20b0 c21 c21b0 p22 q22 c23 c23b0 c24 c24b0 p25 q25 c26 c26b0 c26b1 c29 c30 c30b0 c31 c31b0 p32 q32 c34 c34b0 c35 c35b0 p36 q36 c37 c37b0 c37b1 c39 c39b0 c40 c40b0 p41 q41 hx41 hf41 c46 c46b0 c47 c47b0 c48 c48b0 p49 q49 c51 c51b0 c52 c52b0 p53 q53 c54 c54b0 c54b1 c57 c58 c58b0 c59 c59b0 p60 q60 c61 c61b0 c62 c62b0 p63 q63 c64 c64b0 c64b1 p64 c66 c66b0 c67 c67b0 p68 q68 hx68 hf68 c73 c73b0 c74 c74b0 c75 c75b0 p76 q76 c77 c77b0 c78 c78b0 p79 q79 c80 c80b0 c80b1 hx139_0 hx139_1 hx139_2 hx140_0 hx140_1 hx140_2 hx144_0 hx144_1 hx144_2 hx145_0 hx145_1 hx145_2 hx146_0 hx146_1 hx146_2 hx147_0 hx147_1 hx147_2 hx41_0 hx68_0 p1 p13 p139 p14 p140 p144 p145 p146 p147 p2 p22 p25 p3 p32 p36 p4 p41 p49 p5 p53 p6 p60 p63 p64 p68 p76 p79 q1 q13 q139 q14 q140 q144 q145 q146 q147 q2 q22 q25 q3 q32 q36 q4 q41 q49 q5 q53 q6 q60 q63)
                      (try clear q68 q76 q79);obtain ⟨kq,x91_71,rfl,HA,HJ71,HO_7,BK138,HB⟩:=hcut
                      cases kq with
                      | zero=>exact absurd HA.out (by simp [spec_l01Beside.j6])
                      | succ kj71 =>
                       have H:=HA.out;clear HA;simp only [spec_l01Beside.j6] at H
                       by_cases c82 : x91_71 = true
                       ·
                        subst c82;have H1 : (if 0≤(IntKind.i8.wrap (x8_1 - 1)) then (if (IntKind.i8.wrap (x8_1 - 1)) < 12 then (if 0≤x9_2 then (if x9_2 < 12 then (if (IntKind.i8.wrap (x8_1 - 1)) * 12 + x9_2 < (t136.length : Int) then (if 0≤(rd t136 ((IntKind.i8.wrap (x8_1 - 1)) * 12 + x9_2)) then (if (rd t136 ((IntKind.i8.wrap (x8_1 - 1)) * 12 + x9_2)) < (x7_55.length : Int) then ((some (x7_55.set ((rd t136 ((IntKind.i8.wrap (x8_1 - 1)) * 12 + x9_2)) : Int).toNat true : List Bool)).bind fun y150=>(if x8_1 > 0 then (if (rd t136 ((IntKind.i8.wrap (x8_1 - 1)) * 12 + x9_2)) = (wrap64 (a1 + 1)) then (if 0≤x8_1 then (if x8_1 < 12 then (if x8_1 * 12 + x9_2 < (t136.length : Int) then (if 0≤(rd t136 (x8_1 * 12 + x9_2)) then (if (rd t136 (x8_1 * 12 + x9_2)) < (x7_55.length : Int) then (spec_l01Beside.l1 kj71 l0 a1 (y150.set ((rd t136 (x8_1 * 12 + x9_2)) : Int).toNat true) x8_1 (IntKind.i8.wrap (x9_2 + 1)) t136) else (none)) else (none)) else (none)) else (none)) else (none)) else (spec_l01Beside.l1 kj71 l0 a1 y150 x8_1 (IntKind.i8.wrap (x9_2 + 1)) t136)) else (spec_l01Beside.l1 kj71 l0 a1 y150 x8_1 (IntKind.i8.wrap (x9_2 + 1)) t136))) else (none)) else (none)) else (none)) else (none)) else (none)) else (none)) else (none)) = some r:=by rw [if_pos rfl] at H;exact H
                        clear H;have H:=H1;clear H1;obtain ⟨ji83,hji83⟩ : ∃ j_ : Int,(IntKind.i8.wrap (x8_1 - 1)) = j_:=⟨_,rfl⟩
                        replace H : (if 0≤(ji83) then (if (ji83) < 12 then (if 0≤x9_2 then (if x9_2 < 12 then (if (ji83) * 12 + x9_2 < (t136.length : Int) then (if 0≤(rd t136 ((ji83) * 12 + x9_2)) then (if (rd t136 ((ji83) * 12 + x9_2)) < (x7_55.length : Int) then ((some (x7_55.set ((rd t136 ((ji83) * 12 + x9_2)) : Int).toNat true : List Bool)).bind fun y150=>(if x8_1 > 0 then (if (rd t136 ((ji83) * 12 + x9_2)) = (wrap64 (a1 + 1)) then (if 0≤x8_1 then (if x8_1 < 12 then (if x8_1 * 12 + x9_2 < (t136.length : Int) then (if 0≤(rd t136 (x8_1 * 12 + x9_2)) then (if (rd t136 (x8_1 * 12 + x9_2)) < (x7_55.length : Int) then (spec_l01Beside.l1 kj71 l0 a1 (y150.set ((rd t136 (x8_1 * 12 + x9_2)) : Int).toNat true) x8_1 (IntKind.i8.wrap (x9_2 + 1)) t136) else (none)) else (none)) else (none)) else (none)) else (none)) else (spec_l01Beside.l1 kj71 l0 a1 y150 x8_1 (IntKind.i8.wrap (x9_2 + 1)) t136)) else (spec_l01Beside.l1 kj71 l0 a1 y150 x8_1 (IntKind.i8.wrap (x9_2 + 1)) t136))) else (none)) else (none)) else (none)) else (none)) else (none)) else (none)) else (none)) = some r:=by first|(rw [hji83] at H;exact H)|(simp only [hji83] at H ⊢;exact H)
                        by_cases c84 : 0≤(ji83)
                        ·
                         rw [if_pos c84] at H;have c84b0 : decide (0≤(ji83)) = true:=decide_eq_true c84;clear c84
                         by_cases c85 : (ji83) < 12
                         ·
                          rw [if_pos c85] at H;have c85b0 : decide ((ji83) < 12) = true:=decide_eq_true c85;clear c85
                          by_cases c87 : 0≤x9_2
                          ·
                           rw [if_pos c87] at H;have c87b0 : decide (0≤x9_2) = true:=decide_eq_true c87;clear c87
                           by_cases c88 : x9_2 < 12
                           ·
                            rw [if_pos c88] at H;have c88b0 : decide (x9_2 < 12) = true:=decide_eq_true c88;clear c88
                            by_cases c90 : (ji83) * 12 + x9_2 < (t136.length : Int)
                            ·
                             rw [if_pos c90] at H;have c90b0:=eq_true c90;have c90b1 : decide ((ji83) * 12 + x9_2 < (t136.length : Int)) = true:=decide_eq_true c90;obtain ⟨ji91,hji91⟩ : ∃ j_ : Int,(rd t136 ((ji83) * 12 + x9_2)) = j_:=⟨_,rfl⟩
                             replace H : (if 0≤(ji91) then (if (ji91) < (x7_55.length : Int) then ((some (x7_55.set ((ji91) : Int).toNat true : List Bool)).bind fun y150=>(if x8_1 > 0 then (if (ji91) = (wrap64 (a1 + 1)) then (if 0≤x8_1 then (if x8_1 < 12 then (if x8_1 * 12 + x9_2 < (t136.length : Int) then (if 0≤(rd t136 (x8_1 * 12 + x9_2)) then (if (rd t136 (x8_1 * 12 + x9_2)) < (x7_55.length : Int) then (spec_l01Beside.l1 kj71 l0 a1 (y150.set ((rd t136 (x8_1 * 12 + x9_2)) : Int).toNat true) x8_1 (IntKind.i8.wrap (x9_2 + 1)) t136) else (none)) else (none)) else (none)) else (none)) else (none)) else (spec_l01Beside.l1 kj71 l0 a1 y150 x8_1 (IntKind.i8.wrap (x9_2 + 1)) t136)) else (spec_l01Beside.l1 kj71 l0 a1 y150 x8_1 (IntKind.i8.wrap (x9_2 + 1)) t136))) else (none)) else (none)) = some r:=by first|(rw [hji91] at H;exact H)|(simp only [hji91] at H ⊢;exact H)
                             by_cases c92 : 0≤(ji91)
                             ·
                              rw [if_pos c92] at H;have c92b0 : decide (0≤(ji91)) = true:=decide_eq_true c92;clear c92
                              by_cases c93 : (ji91) < (x7_55.length : Int)
                              ·
                               rw [if_pos c93] at H;have c93b0 : decide ((ji91) < (x7_55.length : Int)) = true:=decide_eq_true c93;clear c93;obtain ⟨y150,hy150⟩ : ∃ y_ : List Bool,y_ = (x7_55.set ((ji91) : Int).toNat true):=⟨_,rfl⟩
                               replace H : (if x8_1 > 0 then (if (ji91) = (wrap64 (a1 + 1)) then (if 0≤x8_1 then (if x8_1 < 12 then (if x8_1 * 12 + x9_2 < (t136.length : Int) then (if 0≤(rd t136 (x8_1 * 12 + x9_2)) then (if (rd t136 (x8_1 * 12 + x9_2)) < (x7_55.length : Int) then (spec_l01Beside.l1 kj71 l0 a1 (y150.set ((rd t136 (x8_1 * 12 + x9_2)) : Int).toNat true) x8_1 (IntKind.i8.wrap (x9_2 + 1)) t136) else (none)) else (none)) else (none)) else (none)) else (none)) else (spec_l01Beside.l1 kj71 l0 a1 y150 x8_1 (IntKind.i8.wrap (x9_2 + 1)) t136)) else (spec_l01Beside.l1 kj71 l0 a1 y150 x8_1 (IntKind.i8.wrap (x9_2 + 1)) t136)) = some r:=by first|(rw [hy150];with_reducible exact H)|(have H2_:=(Option.bind_some _ _).symm.trans H;rw [hy150];with_reducible exact H2_)|(have H2_:=(Option.bind_some _ _).symm.trans H;with_reducible exact H2_)|with_reducible exact H|(rw [hy150];exact H)|exact H
                               have Ny150:=am_ hy150;clear hy150
                               by_cases c95 : x8_1 > 0
                               ·
                                rw [if_pos c95] at H;have c95b0 : decide (0 < x8_1) = true:=decide_eq_true c95;clear c95
                                by_cases c98 : (ji91) = (wrap64 (a1 + 1))
                                ·
                                 rw [if_pos c98] at H;have c98b0 : ((ji91) == (wrap64 (a1 + 1))) = true:=beq_iff_eq.mpr c98;have c98b1 : ((ji91) != (wrap64 (a1 + 1))) = false:=bne_eq_false_iff_eq.mpr c98;clear c98
                                 by_cases c99 : 0≤x8_1
                                 ·
                                  rw [if_pos c99] at H;have c99b0 : decide (0≤x8_1) = true:=decide_eq_true c99;clear c99
                                  by_cases c100 : x8_1 < 12
                                  ·
                                   rw [if_pos c100] at H;have c100b0 : decide (x8_1 < 12) = true:=decide_eq_true c100;clear c100
                                   by_cases c103 : x8_1 * 12 + x9_2 < (t136.length : Int)
                                   ·
                                    rw [if_pos c103] at H;have c103b0:=eq_true c103;have c103b1 : decide (x8_1 * 12 + x9_2 < (t136.length : Int)) = true:=decide_eq_true c103;obtain ⟨ji104,hji104⟩ : ∃ j_ : Int,(rd t136 (x8_1 * 12 + x9_2)) = j_:=⟨_,rfl⟩
                                    replace H : (if 0≤(ji104) then (if (ji104) < (x7_55.length : Int) then (spec_l01Beside.l1 kj71 l0 a1 (y150.set ((ji104) : Int).toNat true) x8_1 (IntKind.i8.wrap (x9_2 + 1)) t136) else (none)) else (none)) = some r:=by first|(rw [hji104] at H;exact H)|(simp only [hji104] at H ⊢;exact H)
                                    by_cases c105 : 0≤(ji104)
                                    ·
                                     rw [if_pos c105] at H;have c105b0 : decide (0≤(ji104)) = true:=decide_eq_true c105;clear c105
                                     by_cases c106 : (ji104) < (x7_55.length : Int)
                                     ·
                                      rw [if_pos c106] at H;have c106b0 : decide ((ji104) < (x7_55.length : Int)) = true:=decide_eq_true c106;clear c106;obtain ⟨y151,hy151⟩ : ∃ y_ : List Bool,y_ = (y150.set ((ji104) : Int).toNat true):=⟨_,rfl⟩
                                      replace H : (spec_l01Beside.l1 kj71 l0 a1 y151 x8_1 (IntKind.i8.wrap (x9_2 + 1)) t136) = some r:=by first|(rw [hy151];with_reducible exact H)|(have H2_:=(Option.bind_some _ _).symm.trans H;rw [hy151];with_reducible exact H2_)|(have H2_:=(Option.bind_some _ _).symm.trans H;with_reducible exact H2_)|with_reducible exact H|(rw [hy151];exact H)|exact H
                                      have Ny151:=am_ hy151;clear hy151;have H':=am_ H;clear H;have p86 : 0≤((ji83) : Int):=od_ (by first|(with_reducible assumption)|assumption);have q86 : ((ji83) : Int) < (12 : Int):=od_ (by first|(with_reducible assumption)|assumption);replace p86:=eq_true p86;replace q86:=eq_true q86;have p89 : 0≤(x9_2 : Int):=od_ (by first|(with_reducible assumption)|assumption);have q89 : (x9_2 : Int) < (12 : Int):=od_ (by first|(with_reducible assumption)|assumption);replace p89:=eq_true p89;replace q89:=eq_true q89;have haz108 : wc.cell? ⟨gb138,(ji83).toNat * 12 + x9_2.toNat,none⟩ = some (.int .i64 (rd t136 ((ji83) * 12 + x9_2))):=arr_cell (by (with_reducible repeat (first|apply kN_|apply kD_|apply kA_));exact BK138.out) ((ji83) * 12 + x9_2) _ (by have h0_ : (0 : Int)≤(ji83):=od_ (by first|(with_reducible assumption)|assumption);have h1_ : (0 : Int)≤x9_2:=od_ (by first|(with_reducible assumption)|assumption);omega) (od_ (by first|(with_reducible assumption)|assumption));have p94 : 0≤((ji91) : Int):=od_ (by first|(with_reducible assumption)|assumption);have q94 : ((ji91) : Int) < ((x7_55.length : Int) : Int):=od_ (by first|(with_reducible assumption)|assumption);obtain ⟨go94,co94,eo94,gb94,gl94,cl94,HG94⟩:=Kd.R_form HO_7.out (by omega)
                                      (first|cases eo94|(injection eo94 with ea_ en_ ec_;(first|subst ea_|(injection ea_ with ea_;subst ea_));subst ec_;clear en_))
                                      have GB94:=am_ gb94;have GG94:=am_ HG94;clear gb94 gl94 HG94;obtain ⟨hx94_0,hf94_0⟩:=Kd.R_celln false HO_7.out ((ji91) : Int) p94 q94;replace p94:=eq_true p94;replace q94:=eq_true q94;have HP109:=Kd.R_putg HO_7.out ((ji91) : Int) true
                                      go_wp2_with (first|((with_reducible refine gate_store (t:=4) (p:=99) rfl ?_);refine store_event (t:=4) (p:=99) (v:=?vo_w110) (w1:=(wc.setCell ⟨go94,((ji91) : Int).toNat,none⟩ (.bool true))) ?hg ?ho ?hn ?hr ?_;(case ho=>rfl);(case hg=>rfl);(case hn=>rfl);(case hr=>first|(go_simp;done)|(go_simp;rfl));intro w110 hw;have hg : wc.grownBy w110 (some go94):=(by rw [hw];exact HP109.2);have hp_ : Kd.R Kd.bool 4 w110 w.heap.size (fun _=>True) (.slice (some ⟨go94,0,none⟩) x7_55.length co94) y150:=(by rw [hw,Ny150.out];exact HP109.1);clear HP109;have n0_:=am_ (hp_);have n1_:=am_ (blk_grown (g:=gb138) (o:=.cells (arrC .i64 t136) 59 (0,0)) (by (with_reducible repeat (first|apply kN_|apply kD_|apply kA_));exact BK138.out) hg (Kd.R_ne HO_7.out BK138.out (by decide)));have n2_:=am_ ((by rw [hw];exact bS_ (HB.out) GB94.out : Below w.heap.size w w110));clear HO_7;clear BK138;clear HB;have HO_7:=n0_;have BK138:=n1_;have HB:=n2_;clear n0_ n1_ n2_;clear hg hw hp_;have p96 : 0≤((ji83) : Int):=od_ (by first|(with_reducible assumption)|assumption);have q96 : ((ji83) : Int) < (12 : Int):=od_ (by first|(with_reducible assumption)|assumption);replace p96:=eq_true p96;replace q96:=eq_true q96;have p97 : 0≤(x9_2 : Int):=od_ (by first|(with_reducible assumption)|assumption);have q97 : (x9_2 : Int) < (12 : Int):=od_ (by first|(with_reducible assumption)|assumption);replace p97:=eq_true p97;replace q97:=eq_true q97;have haz111 : w110.cell? ⟨gb138,(ji83).toNat * 12 + x9_2.toNat,none⟩ = some (.int .i64 (rd t136 ((ji83) * 12 + x9_2))):=arr_cell (by (with_reducible repeat (first|apply kN_|apply kD_|apply kA_));exact BK138.out) ((ji83) * 12 + x9_2) _ (by have h0_ : (0 : Int)≤(ji83):=od_ (by first|(with_reducible assumption)|assumption);have h1_ : (0 : Int)≤x9_2:=od_ (by first|(with_reducible assumption)|assumption);omega) (od_ (by first|(with_reducible assumption)|assumption));have p101 : 0≤(x8_1 : Int):=od_ (by first|(with_reducible assumption)|assumption);have q101 : (x8_1 : Int) < (12 : Int):=od_ (by first|(with_reducible assumption)|assumption);replace p101:=eq_true p101;replace q101:=eq_true q101;have p102 : 0≤(x9_2 : Int):=od_ (by first|(with_reducible assumption)|assumption);have q102 : (x9_2 : Int) < (12 : Int):=od_ (by first|(with_reducible assumption)|assumption);replace p102:=eq_true p102;replace q102:=eq_true q102;have haz112 : w110.cell? ⟨gb138,x8_1.toNat * 12 + x9_2.toNat,none⟩ = some (.int .i64 (rd t136 (x8_1 * 12 + x9_2))):=arr_cell (by (with_reducible repeat (first|apply kN_|apply kD_|apply kA_));exact BK138.out) (x8_1 * 12 + x9_2) _ (by have h0_ : (0 : Int)≤x8_1:=od_ (by first|(with_reducible assumption)|assumption);have h1_ : (0 : Int)≤x9_2:=od_ (by first|(with_reducible assumption)|assumption);omega) (od_ (by first|(with_reducible assumption)|assumption));have p107 : 0≤((ji104) : Int):=od_ (by first|(with_reducible assumption)|assumption);have q107 : ((ji104) : Int) < ((x7_55.length : Int) : Int):=od_ (by first|(with_reducible assumption)|assumption);obtain ⟨hx107_0,hf107_0⟩:=Kd.R_celln false HO_7.out ((ji104) : Int) p107 q107;replace p107:=eq_true p107;replace q107:=eq_true q107;obtain ⟨hy113_,hz113_⟩:=Kd.R_celln false HO_7.out ((ji104) : Int) (od_ (by first|(with_reducible assumption)|assumption)) (od_ (by first|(with_reducible assumption)|assumption));have HP113:=Kd.R_putg HO_7.out ((ji104) : Int) true)|((with_reducible refine gate_store (t:=4) (p:=119) rfl ?_);refine store_event (t:=4) (p:=119) (v:=?vo_w114) (w1:=(w110.setCell ⟨go94,((ji104) : Int).toNat,none⟩ (.bool true))) ?hg ?ho ?hn ?hr ?_;(case ho=>rfl);(case hg=>rfl);(case hn=>rfl);(case hr=>first|(go_simp;done)|(go_simp;rfl));intro w114 hw;have hg : w110.grownBy w114 (some go94):=(by rw [hw];exact HP113.2);have hp_ : Kd.R Kd.bool 4 w114 w.heap.size (fun _=>True) (.slice (some ⟨go94,0,none⟩) x7_55.length co94) y151:=(by rw [hw,Ny151.out];exact HP113.1);clear HP113;have n0_:=am_ (hp_);have n1_:=am_ (blk_grown (g:=gb138) (o:=.cells (arrC .i64 t136) 59 (0,0)) (by (with_reducible repeat (first|apply kN_|apply kD_|apply kA_));exact BK138.out) hg (Kd.R_ne HO_7.out BK138.out (by decide)));have n2_:=am_ ((by rw [hw];exact bS_ (HB.out) GB94.out : Below w.heap.size w w114));clear HO_7;clear BK138;clear HB;have HO_7:=n0_;have BK138:=n1_;have HB:=n2_;clear n0_ n1_ n2_;clear hg hw hp_))
                                      go_roundg kj71
                                      case measure=>have:=HK1.out;have:=HK2.out;have:=HJ17.out;have:=HJ27.out;have:=HJ44.out;have:=HJ55.out;have:=HJ71.out;omega
                                      case rel=>exact ⟨(y151),(IntKind.i8.wrap (x9_2 + 1)),(by first|rfl|(simp;done)|(simp [*];done)),H',⟨by have:=HK1.out;have:=HK2.out;have:=HJ17.out;have:=HJ27.out;have:=HJ44.out;have:=HJ55.out;have:=HJ71.out;omega⟩,⟨by (with_reducible repeat (first|apply Kd.R_alloc|apply Kd.R_drewN|apply Kd.R_drew));exact HO_7.out⟩,⟨by (with_reducible repeat (first|apply kN_|apply kD_|apply kA_));exact BK138.out⟩,⟨by repeat (first|(with_reducible first|exact HB.out|apply bA_|apply bN_|apply bD_|refine bS_ ?_ GE138.out)|exact HB.out)⟩⟩
                                     · rw [if_neg c106] at H;exact absurd H (by simp)
                                    · rw [if_neg c105] at H;exact absurd H (by simp)
                                   · rw [if_neg c103] at H;exact absurd H (by simp)
                                  · rw [if_neg c100] at H;exact absurd H (by simp)
                                 · rw [if_neg c99] at H;exact absurd H (by simp)
                                ·
                                 rw [if_neg c98] at H;have c98b0 : ((ji91) == (wrap64 (a1 + 1))) = false:=beq_eq_false_iff_ne.mpr c98;have c98b1 : ((ji91) != (wrap64 (a1 + 1))) = true:=bne_iff_ne.mpr c98;have H':=am_ H;clear H;have p86 : 0≤((ji83) : Int):=od_ (by first|(with_reducible assumption)|assumption);have q86 : ((ji83) : Int) < (12 : Int):=od_ (by first|(with_reducible assumption)|assumption);replace p86:=eq_true p86;replace q86:=eq_true q86;have p89 : 0≤(x9_2 : Int):=od_ (by first|(with_reducible assumption)|assumption);have q89 : (x9_2 : Int) < (12 : Int):=od_ (by first|(with_reducible assumption)|assumption);replace p89:=eq_true p89;replace q89:=eq_true q89;have haz115 : wc.cell? ⟨gb138,(ji83).toNat * 12 + x9_2.toNat,none⟩ = some (.int .i64 (rd t136 ((ji83) * 12 + x9_2))):=arr_cell (by (with_reducible repeat (first|apply kN_|apply kD_|apply kA_));exact BK138.out) ((ji83) * 12 + x9_2) _ (by have h0_ : (0 : Int)≤(ji83):=od_ (by first|(with_reducible assumption)|assumption);have h1_ : (0 : Int)≤x9_2:=od_ (by first|(with_reducible assumption)|assumption);omega) (od_ (by first|(with_reducible assumption)|assumption));have p94 : 0≤((ji91) : Int):=od_ (by first|(with_reducible assumption)|assumption);have q94 : ((ji91) : Int) < ((x7_55.length : Int) : Int):=od_ (by first|(with_reducible assumption)|assumption);obtain ⟨go94,co94,eo94,gb94,gl94,cl94,HG94⟩:=Kd.R_form HO_7.out (by omega)
                                 (first|cases eo94|(injection eo94 with ea_ en_ ec_;(first|subst ea_|(injection ea_ with ea_;subst ea_));subst ec_;clear en_))
                                 have GB94:=am_ gb94;have GG94:=am_ HG94;clear gb94 gl94 HG94;obtain ⟨hx94_0,hf94_0⟩:=Kd.R_celln false HO_7.out ((ji91) : Int) p94 q94;replace p94:=eq_true p94;replace q94:=eq_true q94;have HP116:=Kd.R_putg HO_7.out ((ji91) : Int) true
                                 go_wp2_with (first|((with_reducible refine gate_store (t:=4) (p:=99) rfl ?_);refine store_event (t:=4) (p:=99) (v:=?vo_w117) (w1:=(wc.setCell ⟨go94,((ji91) : Int).toNat,none⟩ (.bool true))) ?hg ?ho ?hn ?hr ?_;(case ho=>rfl);(case hg=>rfl);(case hn=>rfl);(case hr=>first|(go_simp;done)|(go_simp;rfl));intro w117 hw;have hg : wc.grownBy w117 (some go94):=(by rw [hw];exact HP116.2);have hp_ : Kd.R Kd.bool 4 w117 w.heap.size (fun _=>True) (.slice (some ⟨go94,0,none⟩) x7_55.length co94) y150:=(by rw [hw,Ny150.out];exact HP116.1);clear HP116;have n0_:=am_ (hp_);have n1_:=am_ (blk_grown (g:=gb138) (o:=.cells (arrC .i64 t136) 59 (0,0)) (by (with_reducible repeat (first|apply kN_|apply kD_|apply kA_));exact BK138.out) hg (Kd.R_ne HO_7.out BK138.out (by decide)));have n2_:=am_ ((by rw [hw];exact bS_ (HB.out) GB94.out : Below w.heap.size w w117));clear HO_7;clear BK138;clear HB;have HO_7:=n0_;have BK138:=n1_;have HB:=n2_;clear n0_ n1_ n2_;clear hg hw hp_;have p96 : 0≤((ji83) : Int):=od_ (by first|(with_reducible assumption)|assumption);have q96 : ((ji83) : Int) < (12 : Int):=od_ (by first|(with_reducible assumption)|assumption);replace p96:=eq_true p96;replace q96:=eq_true q96;have p97 : 0≤(x9_2 : Int):=od_ (by first|(with_reducible assumption)|assumption);have q97 : (x9_2 : Int) < (12 : Int):=od_ (by first|(with_reducible assumption)|assumption);replace p97:=eq_true p97;replace q97:=eq_true q97;have haz118 : w117.cell? ⟨gb138,(ji83).toNat * 12 + x9_2.toNat,none⟩ = some (.int .i64 (rd t136 ((ji83) * 12 + x9_2))):=arr_cell (by (with_reducible repeat (first|apply kN_|apply kD_|apply kA_));exact BK138.out) ((ji83) * 12 + x9_2) _ (by have h0_ : (0 : Int)≤(ji83):=od_ (by first|(with_reducible assumption)|assumption);have h1_ : (0 : Int)≤x9_2:=od_ (by first|(with_reducible assumption)|assumption);omega) (od_ (by first|(with_reducible assumption)|assumption))))
                                 go_roundg kj71
                                 case measure=>have:=HK1.out;have:=HK2.out;have:=HJ17.out;have:=HJ27.out;have:=HJ44.out;have:=HJ55.out;have:=HJ71.out;omega
                                 case rel=>exact ⟨(y150),(IntKind.i8.wrap (x9_2 + 1)),(by first|rfl|(simp;done)|(simp [*];done)),H',⟨by have:=HK1.out;have:=HK2.out;have:=HJ17.out;have:=HJ27.out;have:=HJ44.out;have:=HJ55.out;have:=HJ71.out;omega⟩,⟨by (with_reducible repeat (first|apply Kd.R_alloc|apply Kd.R_drewN|apply Kd.R_drew));exact HO_7.out⟩,⟨by (with_reducible repeat (first|apply kN_|apply kD_|apply kA_));exact BK138.out⟩,⟨by repeat (first|(with_reducible first|exact HB.out|apply bA_|apply bN_|apply bD_|refine bS_ ?_ GE138.out)|exact HB.out)⟩⟩
                               ·
                                rw [if_neg c95] at H;have c95b0 : decide (0 < x8_1) = false:=decide_eq_false c95;clear c95;have H':=am_ H;clear H;have p86 : 0≤((ji83) : Int):=od_ (by first|(with_reducible assumption)|assumption);have q86 : ((ji83) : Int) < (12 : Int):=od_ (by first|(with_reducible assumption)|assumption);replace p86:=eq_true p86;replace q86:=eq_true q86;have p89 : 0≤(x9_2 : Int):=od_ (by first|(with_reducible assumption)|assumption);have q89 : (x9_2 : Int) < (12 : Int):=od_ (by first|(with_reducible assumption)|assumption);replace p89:=eq_true p89;replace q89:=eq_true q89;have haz119 : wc.cell? ⟨gb138,(ji83).toNat * 12 + x9_2.toNat,none⟩ = some (.int .i64 (rd t136 ((ji83) * 12 + x9_2))):=arr_cell (by (with_reducible repeat (first|apply kN_|apply kD_|apply kA_));exact BK138.out) ((ji83) * 12 + x9_2) _ (by have h0_ : (0 : Int)≤(ji83):=od_ (by first|(with_reducible assumption)|assumption);have h1_ : (0 : Int)≤x9_2:=od_ (by first|(with_reducible assumption)|assumption);omega) (od_ (by first|(with_reducible assumption)|assumption));have p94 : 0≤((ji91) : Int):=od_ (by first|(with_reducible assumption)|assumption);have q94 : ((ji91) : Int) < ((x7_55.length : Int) : Int):=od_ (by first|(with_reducible assumption)|assumption);obtain ⟨go94,co94,eo94,gb94,gl94,cl94,HG94⟩:=Kd.R_form HO_7.out (by omega)
                                (first|cases eo94|(injection eo94 with ea_ en_ ec_;(first|subst ea_|(injection ea_ with ea_;subst ea_));subst ec_;clear en_))
                                have GB94:=am_ gb94;have GG94:=am_ HG94;clear gb94 gl94 HG94;obtain ⟨hx94_0,hf94_0⟩:=Kd.R_celln false HO_7.out ((ji91) : Int) p94 q94;replace p94:=eq_true p94;replace q94:=eq_true q94;have HP120:=Kd.R_putg HO_7.out ((ji91) : Int) true
                                go_wp2_with (first|((with_reducible refine gate_store (t:=4) (p:=99) rfl ?_);refine store_event (t:=4) (p:=99) (v:=?vo_w121) (w1:=(wc.setCell ⟨go94,((ji91) : Int).toNat,none⟩ (.bool true))) ?hg ?ho ?hn ?hr ?_;(case ho=>rfl);(case hg=>rfl);(case hn=>rfl);(case hr=>first|(go_simp;done)|(go_simp;rfl));intro w121 hw;have hg : wc.grownBy w121 (some go94):=(by rw [hw];exact HP120.2);have hp_ : Kd.R Kd.bool 4 w121 w.heap.size (fun _=>True) (.slice (some ⟨go94,0,none⟩) x7_55.length co94) y150:=(by rw [hw,Ny150.out];exact HP120.1);clear HP120;have n0_:=am_ (hp_);have n1_:=am_ (blk_grown (g:=gb138) (o:=.cells (arrC .i64 t136) 59 (0,0)) (by (with_reducible repeat (first|apply kN_|apply kD_|apply kA_));exact BK138.out) hg (Kd.R_ne HO_7.out BK138.out (by decide)));have n2_:=am_ ((by rw [hw];exact bS_ (HB.out) GB94.out : Below w.heap.size w w121));clear HO_7;clear BK138;clear HB;have HO_7:=n0_;have BK138:=n1_;have HB:=n2_;clear n0_ n1_ n2_;clear hg hw hp_))
                                go_roundg kj71
                                case measure=>have:=HK1.out;have:=HK2.out;have:=HJ17.out;have:=HJ27.out;have:=HJ44.out;have:=HJ55.out;have:=HJ71.out;omega
                                case rel=>exact ⟨(y150),(IntKind.i8.wrap (x9_2 + 1)),(by first|rfl|(simp;done)|(simp [*];done)),H',⟨by have:=HK1.out;have:=HK2.out;have:=HJ17.out;have:=HJ27.out;have:=HJ44.out;have:=HJ55.out;have:=HJ71.out;omega⟩,⟨by (with_reducible repeat (first|apply Kd.R_alloc|apply Kd.R_drewN|apply Kd.R_drew));exact HO_7.out⟩,⟨by (with_reducible repeat (first|apply kN_|apply kD_|apply kA_));exact BK138.out⟩,⟨by repeat (first|(with_reducible first|exact HB.out|apply bA_|apply bN_|apply bD_|refine bS_ ?_ GE138.out)|exact HB.out)⟩⟩
                              · rw [if_neg c93] at H;exact absurd H (by simp)
                             · rw [if_neg c92] at H;exact absurd H (by simp)
                            · rw [if_neg c90] at H;exact absurd H (by simp)
                           · rw [if_neg c88] at H;exact absurd H (by simp)
                          · rw [if_neg c87] at H;exact absurd H (by simp)
                         · rw [if_neg c85] at H;exact absurd H (by simp)
                        · rw [if_neg c84] at H;exact absurd H (by simp)
                       ·
                        replace c82:=Bool.eq_false_iff.mpr c82;subst c82;have H1 : (if x8_1 > 0 then (if 0≤(IntKind.i8.wrap (x8_1 - 1)) then (if (IntKind.i8.wrap (x8_1 - 1)) < 12 then (if 0≤x9_2 then (if x9_2 < 12 then (if (IntKind.i8.wrap (x8_1 - 1)) * 12 + x9_2 < (t136.length : Int) then (if (rd t136 ((IntKind.i8.wrap (x8_1 - 1)) * 12 + x9_2)) = (wrap64 (a1 + 1)) then (if 0≤x8_1 then (if x8_1 < 12 then (if x8_1 * 12 + x9_2 < (t136.length : Int) then (if 0≤(rd t136 (x8_1 * 12 + x9_2)) then (if (rd t136 (x8_1 * 12 + x9_2)) < (x7_55.length : Int) then (spec_l01Beside.l1 kj71 l0 a1 (x7_55.set ((rd t136 (x8_1 * 12 + x9_2)) : Int).toNat true) x8_1 (IntKind.i8.wrap (x9_2 + 1)) t136) else (none)) else (none)) else (none)) else (none)) else (none)) else (spec_l01Beside.l1 kj71 l0 a1 x7_55 x8_1 (IntKind.i8.wrap (x9_2 + 1)) t136)) else (none)) else (none)) else (none)) else (none)) else (none)) else (spec_l01Beside.l1 kj71 l0 a1 x7_55 x8_1 (IntKind.i8.wrap (x9_2 + 1)) t136)) = some r:=by rw [if_neg (show ¬ (false = true) by decide)] at H;exact H
                        clear H;have H:=H1;clear H1
                        by_cases c122 : x8_1 > 0
                        ·
                         rw [if_pos c122] at H;have c122b0 : decide (0 < x8_1) = true:=decide_eq_true c122;clear c122;obtain ⟨ji123,hji123⟩ : ∃ j_ : Int,(IntKind.i8.wrap (x8_1 - 1)) = j_:=⟨_,rfl⟩
                         replace H : (if 0≤(ji123) then (if (ji123) < 12 then (if 0≤x9_2 then (if x9_2 < 12 then (if (ji123) * 12 + x9_2 < (t136.length : Int) then (if (rd t136 ((ji123) * 12 + x9_2)) = (wrap64 (a1 + 1)) then (if 0≤x8_1 then (if x8_1 < 12 then (if x8_1 * 12 + x9_2 < (t136.length : Int) then (if 0≤(rd t136 (x8_1 * 12 + x9_2)) then (if (rd t136 (x8_1 * 12 + x9_2)) < (x7_55.length : Int) then (spec_l01Beside.l1 kj71 l0 a1 (x7_55.set ((rd t136 (x8_1 * 12 + x9_2)) : Int).toNat true) x8_1 (IntKind.i8.wrap (x9_2 + 1)) t136) else (none)) else (none)) else (none)) else (none)) else (none)) else (spec_l01Beside.l1 kj71 l0 a1 x7_55 x8_1 (IntKind.i8.wrap (x9_2 + 1)) t136)) else (none)) else (none)) else (none)) else (none)) else (none)) = some r:=by first|(rw [hji123] at H;exact H)|(simp only [hji123] at H ⊢;exact H)
                         by_cases c124 : 0≤(ji123)
                         ·
                          rw [if_pos c124] at H;have c124b0 : decide (0≤(ji123)) = true:=decide_eq_true c124;clear c124
                          by_cases c125 : (ji123) < 12
                          ·
                           rw [if_pos c125] at H;have c125b0 : decide ((ji123) < 12) = true:=decide_eq_true c125;clear c125
                           by_cases c127 : 0≤x9_2
                           ·
                            rw [if_pos c127] at H;have c127b0 : decide (0≤x9_2) = true:=decide_eq_true c127;clear c127
                            by_cases c128 : x9_2 < 12
                            ·
                             rw [if_pos c128] at H;have c128b0 : decide (x9_2 < 12) = true:=decide_eq_true c128;clear c128
                             by_cases c130 : (ji123) * 12 + x9_2 < (t136.length : Int)
                             ·
                              rw [if_pos c130] at H;have c130b0:=eq_true c130;have c130b1 : decide ((ji123) * 12 + x9_2 < (t136.length : Int)) = true:=decide_eq_true c130
                              by_cases c131 : (rd t136 ((ji123) * 12 + x9_2)) = (wrap64 (a1 + 1))
                              ·
                               rw [if_pos c131] at H;have c131b0 : ((rd t136 ((ji123) * 12 + x9_2)) == (wrap64 (a1 + 1))) = true:=beq_iff_eq.mpr c131;have c131b1 : ((rd t136 ((ji123) * 12 + x9_2)) != (wrap64 (a1 + 1))) = false:=bne_eq_false_iff_eq.mpr c131;clear c131
                               by_cases c132 : 0≤x8_1
                               ·
                                rw [if_pos c132] at H;have c132b0 : decide (0≤x8_1) = true:=decide_eq_true c132;clear c132
                                by_cases c133 : x8_1 < 12
                                ·
                                 rw [if_pos c133] at H;have c133b0 : decide (x8_1 < 12) = true:=decide_eq_true c133;clear c133
                                 by_cases c136 : x8_1 * 12 + x9_2 < (t136.length : Int)
                                 ·
                                  rw [if_pos c136] at H;have c136b0:=eq_true c136;have c136b1 : decide (x8_1 * 12 + x9_2 < (t136.length : Int)) = true:=decide_eq_true c136;obtain ⟨ji137,hji137⟩ : ∃ j_ : Int,(rd t136 (x8_1 * 12 + x9_2)) = j_:=⟨_,rfl⟩
                                  replace H : (if 0≤(ji137) then (if (ji137) < (x7_55.length : Int) then (spec_l01Beside.l1 kj71 l0 a1 (x7_55.set ((ji137) : Int).toNat true) x8_1 (IntKind.i8.wrap (x9_2 + 1)) t136) else (none)) else (none)) = some r:=by first|(rw [hji137] at H;exact H)|(simp only [hji137] at H ⊢;exact H)
                                  by_cases c138 : 0≤(ji137)
                                  ·
                                   rw [if_pos c138] at H;have c138b0 : decide (0≤(ji137)) = true:=decide_eq_true c138;clear c138
                                   by_cases c139 : (ji137) < (x7_55.length : Int)
                                   ·
                                    rw [if_pos c139] at H;have c139b0 : decide ((ji137) < (x7_55.length : Int)) = true:=decide_eq_true c139;clear c139;obtain ⟨y152,hy152⟩ : ∃ y_ : List Bool,y_ = (x7_55.set ((ji137) : Int).toNat true):=⟨_,rfl⟩
                                    replace H : (spec_l01Beside.l1 kj71 l0 a1 y152 x8_1 (IntKind.i8.wrap (x9_2 + 1)) t136) = some r:=by first|(rw [hy152];with_reducible exact H)|(have H2_:=(Option.bind_some _ _).symm.trans H;rw [hy152];with_reducible exact H2_)|(have H2_:=(Option.bind_some _ _).symm.trans H;with_reducible exact H2_)|with_reducible exact H|(rw [hy152];exact H)|exact H
                                    have Ny152:=am_ hy152;clear hy152;have H':=am_ H;clear H;have p126 : 0≤((ji123) : Int):=od_ (by first|(with_reducible assumption)|assumption);have q126 : ((ji123) : Int) < (12 : Int):=od_ (by first|(with_reducible assumption)|assumption);replace p126:=eq_true p126;replace q126:=eq_true q126;have p129 : 0≤(x9_2 : Int):=od_ (by first|(with_reducible assumption)|assumption);have q129 : (x9_2 : Int) < (12 : Int):=od_ (by first|(with_reducible assumption)|assumption);replace p129:=eq_true p129;replace q129:=eq_true q129;have haz141 : wc.cell? ⟨gb138,(ji123).toNat * 12 + x9_2.toNat,none⟩ = some (.int .i64 (rd t136 ((ji123) * 12 + x9_2))):=arr_cell (by (with_reducible repeat (first|apply kN_|apply kD_|apply kA_));exact BK138.out) ((ji123) * 12 + x9_2) _ (by have h0_ : (0 : Int)≤(ji123):=od_ (by first|(with_reducible assumption)|assumption);have h1_ : (0 : Int)≤x9_2:=od_ (by first|(with_reducible assumption)|assumption);omega) (od_ (by first|(with_reducible assumption)|assumption));have p134 : 0≤(x8_1 : Int):=od_ (by first|(with_reducible assumption)|assumption);have q134 : (x8_1 : Int) < (12 : Int):=od_ (by first|(with_reducible assumption)|assumption);replace p134:=eq_true p134;replace q134:=eq_true q134;have p135 : 0≤(x9_2 : Int):=od_ (by first|(with_reducible assumption)|assumption);have q135 : (x9_2 : Int) < (12 : Int):=od_ (by first|(with_reducible assumption)|assumption);replace p135:=eq_true p135;replace q135:=eq_true q135;have haz142 : wc.cell? ⟨gb138,x8_1.toNat * 12 + x9_2.toNat,none⟩ = some (.int .i64 (rd t136 (x8_1 * 12 + x9_2))):=arr_cell (by (with_reducible repeat (first|apply kN_|apply kD_|apply kA_));exact BK138.out) (x8_1 * 12 + x9_2) _ (by have h0_ : (0 : Int)≤x8_1:=od_ (by first|(with_reducible assumption)|assumption);have h1_ : (0 : Int)≤x9_2:=od_ (by first|(with_reducible assumption)|assumption);omega) (od_ (by first|(with_reducible assumption)|assumption));have p140 : 0≤((ji137) : Int):=od_ (by first|(with_reducible assumption)|assumption);have q140 : ((ji137) : Int) < ((x7_55.length : Int) : Int):=od_ (by first|(with_reducible assumption)|assumption);obtain ⟨go140,co140,eo140,gb140,gl140,cl140,HG140⟩:=Kd.R_form HO_7.out (by omega)
                                    (first|cases eo140|(injection eo140 with ea_ en_ ec_;(first|subst ea_|(injection ea_ with ea_;subst ea_));subst ec_;clear en_))
                                    have GB140:=am_ gb140;have GG140:=am_ HG140;clear gb140 gl140 HG140;obtain ⟨hx140_0,hf140_0⟩:=Kd.R_celln false HO_7.out ((ji137) : Int) p140 q140;replace p140:=eq_true p140;replace q140:=eq_true q140;have HP143:=Kd.R_putg HO_7.out ((ji137) : Int) true
                                    go_wp2_with (first|((with_reducible refine gate_store (t:=4) (p:=119) rfl ?_);refine store_event (t:=4) (p:=119) (v:=?vo_w144) (w1:=(wc.setCell ⟨go140,((ji137) : Int).toNat,none⟩ (.bool true))) ?hg ?ho ?hn ?hr ?_;(case ho=>rfl);(case hg=>rfl);(case hn=>rfl);(case hr=>first|(go_simp;done)|(go_simp;rfl));intro w144 hw;have hg : wc.grownBy w144 (some go140):=(by rw [hw];exact HP143.2);have hp_ : Kd.R Kd.bool 4 w144 w.heap.size (fun _=>True) (.slice (some ⟨go140,0,none⟩) x7_55.length co140) y152:=(by rw [hw,Ny152.out];exact HP143.1);clear HP143;have n0_:=am_ (hp_);have n1_:=am_ (blk_grown (g:=gb138) (o:=.cells (arrC .i64 t136) 59 (0,0)) (by (with_reducible repeat (first|apply kN_|apply kD_|apply kA_));exact BK138.out) hg (Kd.R_ne HO_7.out BK138.out (by decide)));have n2_:=am_ ((by rw [hw];exact bS_ (HB.out) GB140.out : Below w.heap.size w w144));clear HO_7;clear BK138;clear HB;have HO_7:=n0_;have BK138:=n1_;have HB:=n2_;clear n0_ n1_ n2_;clear hg hw hp_))
                                    go_roundg kj71
                                    case measure=>have:=HK1.out;have:=HK2.out;have:=HJ17.out;have:=HJ27.out;have:=HJ44.out;have:=HJ55.out;have:=HJ71.out;omega
                                    case rel=>exact ⟨(y152),(IntKind.i8.wrap (x9_2 + 1)),(by first|rfl|(simp;done)|(simp [*];done)),H',⟨by have:=HK1.out;have:=HK2.out;have:=HJ17.out;have:=HJ27.out;have:=HJ44.out;have:=HJ55.out;have:=HJ71.out;omega⟩,⟨by (with_reducible repeat (first|apply Kd.R_alloc|apply Kd.R_drewN|apply Kd.R_drew));exact HO_7.out⟩,⟨by (with_reducible repeat (first|apply kN_|apply kD_|apply kA_));exact BK138.out⟩,⟨by repeat (first|(with_reducible first|exact HB.out|apply bA_|apply bN_|apply bD_|refine bS_ ?_ GE138.out)|exact HB.out)⟩⟩
                                   · rw [if_neg c139] at H;exact absurd H (by simp)
                                  · rw [if_neg c138] at H;exact absurd H (by simp)
                                 · rw [if_neg c136] at H;exact absurd H (by simp)
                                · rw [if_neg c133] at H;exact absurd H (by simp)
                               · rw [if_neg c132] at H;exact absurd H (by simp)
                              ·
                               rw [if_neg c131] at H;have c131b0 : ((rd t136 ((ji123) * 12 + x9_2)) == (wrap64 (a1 + 1))) = false:=beq_eq_false_iff_ne.mpr c131;have c131b1 : ((rd t136 ((ji123) * 12 + x9_2)) != (wrap64 (a1 + 1))) = true:=bne_iff_ne.mpr c131;have H':=am_ H;clear H;have p126 : 0≤((ji123) : Int):=od_ (by first|(with_reducible assumption)|assumption);have q126 : ((ji123) : Int) < (12 : Int):=od_ (by first|(with_reducible assumption)|assumption);replace p126:=eq_true p126;replace q126:=eq_true q126;have p129 : 0≤(x9_2 : Int):=od_ (by first|(with_reducible assumption)|assumption);have q129 : (x9_2 : Int) < (12 : Int):=od_ (by first|(with_reducible assumption)|assumption);replace p129:=eq_true p129;replace q129:=eq_true q129;have haz145 : wc.cell? ⟨gb138,(ji123).toNat * 12 + x9_2.toNat,none⟩ = some (.int .i64 (rd t136 ((ji123) * 12 + x9_2))):=arr_cell (by (with_reducible repeat (first|apply kN_|apply kD_|apply kA_));exact BK138.out) ((ji123) * 12 + x9_2) _ (by have h0_ : (0 : Int)≤(ji123):=od_ (by first|(with_reducible assumption)|assumption);have h1_ : (0 : Int)≤x9_2:=od_ (by first|(with_reducible assumption)|assumption);omega) (od_ (by first|(with_reducible assumption)|assumption))
                               go_wp2
                               go_roundg kj71
                               case measure=>have:=HK1.out;have:=HK2.out;have:=HJ17.out;have:=HJ27.out;have:=HJ44.out;have:=HJ55.out;have:=HJ71.out;omega
                               case rel=>exact ⟨(x7_55),(IntKind.i8.wrap (x9_2 + 1)),(by first|rfl|(simp;done)|(simp [*];done)),H',⟨by have:=HK1.out;have:=HK2.out;have:=HJ17.out;have:=HJ27.out;have:=HJ44.out;have:=HJ55.out;have:=HJ71.out;omega⟩,⟨by (with_reducible repeat (first|apply Kd.R_alloc|apply Kd.R_drewN|apply Kd.R_drew));exact HO_7.out⟩,⟨by (with_reducible repeat (first|apply kN_|apply kD_|apply kA_));exact BK138.out⟩,⟨by repeat (first|(with_reducible first|exact HB.out|apply bA_|apply bN_|apply bD_|refine bS_ ?_ GE138.out)|exact HB.out)⟩⟩
                             · rw [if_neg c130] at H;exact absurd H (by simp)
                            · rw [if_neg c128] at H;exact absurd H (by simp)
                           · rw [if_neg c127] at H;exact absurd H (by simp)
                          · rw [if_neg c125] at H;exact absurd H (by simp)
                         · rw [if_neg c124] at H;exact absurd H (by simp)
                        ·
                         rw [if_neg c122] at H;have c122b0 : decide (0 < x8_1) = false:=decide_eq_false c122;clear c122;have H':=am_ H;clear H
                         go_wp2
                         go_roundg kj71
                         case measure=>have:=HK1.out;have:=HK2.out;have:=HJ17.out;have:=HJ27.out;have:=HJ44.out;have:=HJ55.out;have:=HJ71.out;omega
                         case rel=>exact ⟨(x7_55),(IntKind.i8.wrap (x9_2 + 1)),(by first|rfl|(simp;done)|(simp [*];done)),H',⟨by have:=HK1.out;have:=HK2.out;have:=HJ17.out;have:=HJ27.out;have:=HJ44.out;have:=HJ55.out;have:=HJ71.out;omega⟩,⟨by (with_reducible repeat (first|apply Kd.R_alloc|apply Kd.R_drewN|apply Kd.R_drew));exact HO_7.out⟩,⟨by (with_reducible repeat (first|apply kN_|apply kD_|apply kA_));exact BK138.out⟩,⟨by repeat (first|(with_reducible first|exact HB.out|apply bA_|apply bN_|apply bD_|refine bS_ ?_ GE138.out)|exact HB.out)⟩⟩
            ·
             rw [if_neg c17] at H;have c17b0 : decide (x9_2 < ((rd_T32 l0 0).f0)) = false:=decide_eq_false c17;clear c17;have H':=am_ H;clear H;have p146 : 0≤(0 : Int):=(by omega)
             have q146 : 0 < (l0.length : Int):=od_ (by first|(with_reducible assumption)|assumption);obtain ⟨ad146,A146_2,c146_2,e146,hx146_0,hx146_1,hx146_2,hl146_2,hi146_2⟩:=at_T32 HR0.out 0 p146 q146;obtain rfl : ad139 = ad146:=(by injection e146)
             have qi146 : (0 < l0.length) = True:=eq_true (by omega);(try rw [show ((0 : Int)).toNat = 0 from rfl] at hx146_0);(try rw [show 0 * 3 = 0 from rfl] at hx146_0);(try rw [Addr.add_zero'] at hx146_0);(try rw [show ((0 : Int)).toNat = 0 from rfl] at hx146_1);(try rw [show 0 * 3 = 0 from rfl] at hx146_1);(try rw [Addr.add_zero'] at hx146_1);(try rw [show ((0 : Int)).toNat = 0 from rfl] at hx146_2);(try rw [show 0 * 3 = 0 from rfl] at hx146_2);(try rw [Addr.add_zero'] at hx146_2);replace hx146_0:=(HB.out.cell (bl_ w _ hx146_0)).trans hx146_0;replace hx146_1:=(HB.out.cell (bl_ w _ hx146_1)).trans hx146_1;replace hx146_2:=(HB.out.cell (bl_ w _ hx146_2)).trans hx146_2;have HR146_2:=am_ hi146_2;have HC146_2:=am_ hl146_2;clear hi146_2 hl146_2;replace p146:=eq_true p146;replace q146:=eq_true q146;have p147 : 0≤(0 : Int):=(by omega)
             have q147 : 0 < (l0.length : Int):=od_ (by first|(with_reducible assumption)|assumption);obtain ⟨ad147,A147_2,c147_2,e147,hx147_0,hx147_1,hx147_2,hl147_2,hi147_2⟩:=at_T32 HR0.out 0 p147 q147;obtain rfl : ad139 = ad147:=(by injection e147)
             have qi147 : (0 < l0.length) = True:=eq_true (by omega);(try rw [show ((0 : Int)).toNat = 0 from rfl] at hx147_0);(try rw [show 0 * 3 = 0 from rfl] at hx147_0);(try rw [Addr.add_zero'] at hx147_0);(try rw [show ((0 : Int)).toNat = 0 from rfl] at hx147_1);(try rw [show 0 * 3 = 0 from rfl] at hx147_1);(try rw [Addr.add_zero'] at hx147_1);(try rw [show ((0 : Int)).toNat = 0 from rfl] at hx147_2);(try rw [show 0 * 3 = 0 from rfl] at hx147_2);(try rw [Addr.add_zero'] at hx147_2);replace hx147_0:=(HB.out.cell (bl_ w _ hx147_0)).trans hx147_0;replace hx147_1:=(HB.out.cell (bl_ w _ hx147_1)).trans hx147_1;replace hx147_2:=(HB.out.cell (bl_ w _ hx147_2)).trans hx147_2;have HR147_2:=am_ hi147_2;have HC147_2:=am_ hl147_2;clear hi147_2 hl147_2;replace p147:=eq_true p147;replace q147:=eq_true q147;have ea_:=Option.some.inj (hx146_2.symm.trans hx147_2)
             injection ea_ with ea_ en_ ec_
             subst ea_;subst ec_;clear en_
             go_wp2
             go_roundg k2
             case measure=>have:=HK1.out;have:=HK2.out;omega
             case rel=>exact ⟨(x7_2),(IntKind.i8.wrap (x8_1 + 1)),(by first|rfl|(simp;done)|(simp [*];done)),H',⟨by have:=HK1.out;have:=HK2.out;omega⟩,⟨by (with_reducible repeat (first|apply Kd.R_alloc|apply Kd.R_drewN|apply Kd.R_drew));exact HO_7.out⟩,⟨by (with_reducible repeat (first|apply kN_|apply kD_|apply kA_));exact BK138.out⟩,⟨by repeat (first|(with_reducible first|exact HB.out|apply bA_|apply bN_|apply bD_|refine bS_ ?_ GE138.out)|exact HB.out)⟩⟩
           · rw [if_neg c16] at H;exact absurd H (by simp)
        ·
         rw [if_neg c15] at H;have c15b0 : decide (x8_1 < ((rd_T32 l0 0).f1)) = false:=decide_eq_false c15;clear c15;obtain ⟨y153,hy153⟩ : ∃ y_ : List Int,y_ = (([] : List Int)):=⟨_,rfl⟩
         replace H : (spec_l01Beside.l2 k1 l0 a1 x7_1 y153 0) = some r:=by first|(rw [hy153];with_reducible exact H)|(have H2_:=(Option.bind_some _ _).symm.trans H;rw [hy153];with_reducible exact H2_)|(have H2_:=(Option.bind_some _ _).symm.trans H;with_reducible exact H2_)|with_reducible exact H|(rw [hy153];exact H)|exact H
         have Ny153:=am_ hy153;clear hy153;have H':=am_ H;clear H;have p144 : 0≤(0 : Int):=(by omega)
         have q144 : 0 < (l0.length : Int):=od_ (by first|(with_reducible assumption)|assumption);obtain ⟨ad144,A144_2,c144_2,e144,hx144_0,hx144_1,hx144_2,hl144_2,hi144_2⟩:=at_T32 HR0.out 0 p144 q144;obtain rfl : ad139 = ad144:=(by injection e144)
         have qi144 : (0 < l0.length) = True:=eq_true (by omega);(try rw [show ((0 : Int)).toNat = 0 from rfl] at hx144_0);(try rw [show 0 * 3 = 0 from rfl] at hx144_0);(try rw [Addr.add_zero'] at hx144_0);(try rw [show ((0 : Int)).toNat = 0 from rfl] at hx144_1);(try rw [show 0 * 3 = 0 from rfl] at hx144_1);(try rw [Addr.add_zero'] at hx144_1);(try rw [show ((0 : Int)).toNat = 0 from rfl] at hx144_2);(try rw [show 0 * 3 = 0 from rfl] at hx144_2);(try rw [Addr.add_zero'] at hx144_2);replace hx144_0:=(HB.out.cell (bl_ w _ hx144_0)).trans hx144_0;replace hx144_1:=(HB.out.cell (bl_ w _ hx144_1)).trans hx144_1;replace hx144_2:=(HB.out.cell (bl_ w _ hx144_2)).trans hx144_2;have HR144_2:=am_ hi144_2;have HC144_2:=am_ hl144_2;clear hi144_2 hl144_2;replace p144:=eq_true p144;replace q144:=eq_true q144;have p145 : 0≤(0 : Int):=(by omega)
         have q145 : 0 < (l0.length : Int):=od_ (by first|(with_reducible assumption)|assumption);obtain ⟨ad145,A145_2,c145_2,e145,hx145_0,hx145_1,hx145_2,hl145_2,hi145_2⟩:=at_T32 HR0.out 0 p145 q145;obtain rfl : ad139 = ad145:=(by injection e145)
         have qi145 : (0 < l0.length) = True:=eq_true (by omega);(try rw [show ((0 : Int)).toNat = 0 from rfl] at hx145_0);(try rw [show 0 * 3 = 0 from rfl] at hx145_0);(try rw [Addr.add_zero'] at hx145_0);(try rw [show ((0 : Int)).toNat = 0 from rfl] at hx145_1);(try rw [show 0 * 3 = 0 from rfl] at hx145_1);(try rw [Addr.add_zero'] at hx145_1);(try rw [show ((0 : Int)).toNat = 0 from rfl] at hx145_2);(try rw [show 0 * 3 = 0 from rfl] at hx145_2);(try rw [Addr.add_zero'] at hx145_2);replace hx145_0:=(HB.out.cell (bl_ w _ hx145_0)).trans hx145_0;replace hx145_1:=(HB.out.cell (bl_ w _ hx145_1)).trans hx145_1;replace hx145_2:=(HB.out.cell (bl_ w _ hx145_2)).trans hx145_2;have HR145_2:=am_ hi145_2;have HC145_2:=am_ hl145_2;clear hi145_2 hl145_2;replace p145:=eq_true p145;replace q145:=eq_true q145;have ea_:=Option.some.inj (hx144_2.symm.trans hx145_2)
         injection ea_ with ea_ en_ ec_
         subst ea_;subst ec_;clear en_
         go_wp2_with (first|((with_reducible refine gate_dst (N:=120) rfl ?_);refine Kd.R_lit (Kd.int .i64) _ 2 ?hg (N:=120) ?hd (xs:=([] : List Int)) (inner:=[]) (ok:=fun _=>True) (okp:=fun _=>True) ?hr ?hp (fun _ hk=>hk) trivial (Below.refl _ _) (Nat.le_refl _) (by simp) ?_;(case hd=>rfl);(case hg=>rfl);(case hr=>first|(go_simp;done)|(go_simp;rfl));(case hp=>exact (Reps.none _ _));intro v154 w146 ho147 hb hg_ hnew_;clear hg_ hnew_;(first|rw [← Ny153.out] at ho147|(simp only [Int.reduceToNat] at ho147;rw [← Ny153.out] at ho147));have n0_:=am_ (Kd.R_below (by (with_reducible repeat (first|apply Kd.R_alloc|apply Kd.R_drewN|apply Kd.R_drew));exact HO_7.out) hb);have n1_:=am_ (Kd.R_lower ho147 (bZ_ (by repeat (first|(with_reducible first|exact HB.out|apply bA_|apply bN_|apply bD_|refine bS_ ?_ GE138.out)|exact HB.out))));have n2_:=am_ (kB_ (g:=gb138) (o:=.cells (arrC .i64 t136) 59 (0,0)) (by (with_reducible repeat (first|apply kN_|apply kD_|apply kA_));exact BK138.out) hb);have n3_:=am_ (bT_ (by repeat (first|(with_reducible first|exact HB.out|apply bA_|apply bN_|apply bD_|refine bS_ ?_ GE138.out)|exact HB.out)) hb);clear HO_7;clear BK138;clear HB;have HO_7:=n0_;have HO155:=n1_;have BK138:=n2_;have HB:=n3_;clear n0_ n1_ n2_ n3_;clear hb ho147))
         go_loopg [10,11] k1 (fun kq v10 v11 w'=>∃ (x10_2 : List Int) (x11_2 : Int),v11 = .int .i64 x11_2 ∧ Aside0 (spec_l01Beside.l2 kq l0 a1 x7_1 x10_2 x11_2 = some r) ∧ Aside0 (kq≤k1) ∧ Aside0 (Kd.R Kd.bool 4 w' w.heap.size (fun _=>True) v142 x7_1) ∧ Aside0 (Kd.R (Kd.int .i64) 2 w' w.heap.size (fun _=>True) v10 x10_2) ∧ Aside0 (w'.heap[gb138]? = some (.cells (arrC .i64 t136) 59 (0,0))) ∧ Aside0 (Below w.heap.size w w'))
         case atStart=>exact ⟨(y153),(0),(by first|rfl|(simp;done)|(simp [*];done)),H',⟨Nat.le_refl _⟩,⟨by (with_reducible repeat (first|apply Kd.R_alloc|apply Kd.R_drewN|apply Kd.R_drew));exact HO_7.out⟩,⟨by (with_reducible repeat (first|apply Kd.R_alloc|apply Kd.R_drewN|apply Kd.R_drew));exact HO155.out⟩,⟨by (with_reducible repeat (first|apply kN_|apply kD_|apply kA_));exact BK138.out⟩,⟨by repeat (first|(with_reducible first|exact HB.out|apply bA_|apply bN_|apply bD_|refine bS_ ?_ GE138.out)|exact HB.out)⟩⟩
         case round =>
          clear H';(try clear c1 p1 q1 hx1 qi1 p2 q2 c3 p3 q3 c4 p4 q4 hx4 hf4 c5 p5 q5 c6 p6 q6 hx6 hf6 c7 p7 q7 c8 p8 q8 c9 p9 q9 hx9 hf9 c10 p10 q10 hx10 hf10 c12 p12 q12 c13 p13 q13 hx13 c14 p14 q14 hx14 qi14 hf14 c15 c15b0 c16 c17 c17b0 p22 q22 p25 q25 p32 q32 p36 q36 c39 c39b0 c40 c40b0 p41 q41 hx41 hf41 c46 c46b0 c47 c47b0 c48 c48b0 p49 q49 c51 c51b0 c52 c52b0 p53 q53 c54 c54b0 c54b1 c57 c58 c58b0 c59 c59b0 p60 q60 c61 c61b0 c62 c62b0 p63 q63 c64 c64b0 c64b1 p64 c66 c66b0 c67 c67b0 p68 q68 hx68 hf68 c73 c73b0 c74 c74b0 c75 c75b0 p76 q76 c77 c77b0 c78 c78b0 p79 q79 c80 c80b0 c80b1 c82 c84 c84b0 c85 c85b0 p86 q86 c87 c87b0 c88 c88b0 p89 q89 c90 c90b0 c90b1 c92 c92b0 c93 c93b0 p94 q94 hx94 hf94 c95 c95b0 p96 q96 p97 q97 c98 c98b0 c98b1 c99 c99b0 c100 c100b0 p101 q101 p102 q102 c103 c103b0 c103b1 c105 c105b0 c106 c106b0 p107 q107 hx107 hf107 c122 c122b0 c124 c124b0 c125 c125b0 p126 q126 c127 c127b0 c128 c128b0 p129 q129 c130 c130b0 c130b1 c131 c131b0 c131b1 c132 c132b0 c133 c133b0 p134 q134 p135 q135 c136 c136b0 c136b1 c138 c138b0 c139 c139b0 p139 q139 hx139 p140 q140 hx140)
          (try clear hf140 c144 p144 q144 hx144 qi144 c145 p145 q145 hx145 qi145 c146 p146 q146 hx146 qi146 c147 p147 q147 hx147 qi147 hx107_0 hx139_0 hx139_1 hx139_2 hx140_0 hx140_1 hx140_2 hx144_0 hx144_1 hx144_2 hx145_0 hx145_1 hx145_2 hx146_0 hx146_1 hx146_2 hx147_0 hx147_1 hx147_2 hx41_0 hx68_0 hx94_0 p1 p101 p102 p107 p126 p129 p13 p134 p135 p139 p14 p140 p144 p145 p146 p147 p2 p22 p25 p3 p32 p36 p4 p41 p49 p5 p53 p6 p60 p63 p64 p68 p76 p79 p86 p89 p94 p96 p97 q1 q101 q102 q107 q126 q129 q13 q134 q135 q139 q14 q140 q144 q145 q146 q147 q2 q22 q25 q3 q32 q36 q4 q41 q49 q5 q53 q6 q60 q63 q68 q76 q79 q86 q89 q94 q96 q97);obtain ⟨x10_2,x11_2,rfl,HA,HK2,HO_7,HO_10,BK138,HB⟩:=hrel
          cases gk with
          | zero=>exact absurd HA.out (by simp [spec_l01Beside.l2])
          | succ k2 =>
           have H:=HA.out;clear HA;simp only [spec_l01Beside.l2] at H
           by_cases c148 : 0 < (l0.length : Int)
           ·
            rw [if_pos c148] at H;have c148b0 : decide (0 < (l0.length : Int)) = true:=decide_eq_true c148;have c148b1 : decide (0 < l0.length) = true:=decide_eq_true (by omega);clear c148
            by_cases c149 : x11_2 < (((rd_T32 l0 0).f2).length : Int)
            ·
             rw [if_pos c149] at H;have c149b0 : decide (x11_2 < (((rd_T32 l0 0).f2).length : Int)) = true:=decide_eq_true c149;clear c149;obtain ⟨ji150,hji150⟩ : ∃ j_ : Int,(wrap64 (x11_2 + 1)) = j_:=⟨_,rfl⟩
             replace H : (if 0≤(ji150) then (if (ji150) < (x7_1.length : Int) then (if rdOf false x7_1 (ji150) = true then (if x11_2 = a1 then (spec_l01Beside.l2 k2 l0 a1 x7_1 x10_2 ji150) else (if x10_2.length < 17592186044416 then (spec_l01Beside.l2 k2 l0 a1 x7_1 (x10_2 ++ [x11_2]) ji150) else (none))) else (spec_l01Beside.l2 k2 l0 a1 x7_1 x10_2 ji150)) else (none)) else (none)) = some r:=by first|(rw [hji150] at H;exact H)|(simp only [hji150] at H ⊢;exact H)
             have hji150w : (IntKind.i64.wrap (x11_2 + 1)) = ji150:=(i64_w _).trans hji150
             by_cases c151 : 0≤(ji150)
             ·
              rw [if_pos c151] at H;have c151b0 : decide (0≤(ji150)) = true:=decide_eq_true c151;clear c151
              by_cases c152 : (ji150) < (x7_1.length : Int)
              ·
               rw [if_pos c152] at H;have c152b0 : decide ((ji150) < (x7_1.length : Int)) = true:=decide_eq_true c152;clear c152;obtain ⟨bq153,hbq153⟩ : ∃ b_ : Bool,b_ = (rdOf false x7_1 (ji150)):=⟨_,rfl⟩
               replace H : (if bq153 = true then (if x11_2 = a1 then (spec_l01Beside.l2 k2 l0 a1 x7_1 x10_2 ji150) else (if x10_2.length < 17592186044416 then (spec_l01Beside.l2 k2 l0 a1 x7_1 (x10_2 ++ [x11_2]) ji150) else (none))) else (spec_l01Beside.l2 k2 l0 a1 x7_1 x10_2 ji150)) = some r:=by rw [← hbq153] at H;exact H
               have Nbq153:=am_ hbq153;clear hbq153
               by_cases c154 : bq153 = true
               ·
                subst c154;have H1 : (if x11_2 = a1 then (spec_l01Beside.l2 k2 l0 a1 x7_1 x10_2 ji150) else (if x10_2.length < 17592186044416 then (spec_l01Beside.l2 k2 l0 a1 x7_1 (x10_2 ++ [x11_2]) ji150) else (none))) = some r:=by rw [if_pos rfl] at H;exact H
                clear H;have H:=H1;clear H1
                by_cases c155 : x11_2 = a1
                ·
                 rw [if_pos c155] at H;have c155b0 : (x11_2 == a1) = true:=beq_iff_eq.mpr c155;have c155b1 : (x11_2 != a1) = false:=bne_eq_false_iff_eq.mpr c155;clear c155;have H':=am_ H;clear H;have p156 : 0≤(0 : Int):=(by omega)
                 have q156 : 0 < (l0.length : Int):=od_ (by first|(with_reducible assumption)|assumption);obtain ⟨ad156,A156_2,c156_2,e156,hx156_0,hx156_1,hx156_2,hl156_2,hi156_2⟩:=at_T32 HR0.out 0 p156 q156;obtain rfl : ad139 = ad156:=(by injection e156)
                 have qi156 : (0 < l0.length) = True:=eq_true (by omega);(try rw [show ((0 : Int)).toNat = 0 from rfl] at hx156_0);(try rw [show 0 * 3 = 0 from rfl] at hx156_0);(try rw [Addr.add_zero'] at hx156_0);(try rw [show ((0 : Int)).toNat = 0 from rfl] at hx156_1);(try rw [show 0 * 3 = 0 from rfl] at hx156_1);(try rw [Addr.add_zero'] at hx156_1);(try rw [show ((0 : Int)).toNat = 0 from rfl] at hx156_2);(try rw [show 0 * 3 = 0 from rfl] at hx156_2);(try rw [Addr.add_zero'] at hx156_2);replace hx156_0:=(HB.out.cell (bl_ w _ hx156_0)).trans hx156_0;replace hx156_1:=(HB.out.cell (bl_ w _ hx156_1)).trans hx156_1;replace hx156_2:=(HB.out.cell (bl_ w _ hx156_2)).trans hx156_2;have HR156_2:=am_ hi156_2;have HC156_2:=am_ hl156_2;clear hi156_2 hl156_2;replace p156:=eq_true p156;replace q156:=eq_true q156;have p157 : 0≤(0 : Int):=(by omega)
                 have q157 : 0 < (l0.length : Int):=od_ (by first|(with_reducible assumption)|assumption);obtain ⟨ad157,A157_2,c157_2,e157,hx157_0,hx157_1,hx157_2,hl157_2,hi157_2⟩:=at_T32 HR0.out 0 p157 q157;obtain rfl : ad139 = ad157:=(by injection e157)
                 have qi157 : (0 < l0.length) = True:=eq_true (by omega);(try rw [show ((0 : Int)).toNat = 0 from rfl] at hx157_0);(try rw [show 0 * 3 = 0 from rfl] at hx157_0);(try rw [Addr.add_zero'] at hx157_0);(try rw [show ((0 : Int)).toNat = 0 from rfl] at hx157_1);(try rw [show 0 * 3 = 0 from rfl] at hx157_1);(try rw [Addr.add_zero'] at hx157_1);(try rw [show ((0 : Int)).toNat = 0 from rfl] at hx157_2);(try rw [show 0 * 3 = 0 from rfl] at hx157_2);(try rw [Addr.add_zero'] at hx157_2);replace hx157_0:=(HB.out.cell (bl_ w _ hx157_0)).trans hx157_0;replace hx157_1:=(HB.out.cell (bl_ w _ hx157_1)).trans hx157_1;replace hx157_2:=(HB.out.cell (bl_ w _ hx157_2)).trans hx157_2;have HR157_2:=am_ hi157_2;have HC157_2:=am_ hl157_2;clear hi157_2 hl157_2;replace p157:=eq_true p157;replace q157:=eq_true q157;have ea_:=Option.some.inj (hx156_2.symm.trans hx157_2)
                 injection ea_ with ea_ en_ ec_
                 subst ea_;subst ec_;clear en_;obtain ⟨Ao156,co156,eo156⟩:=Kd.R_slice HO_7.out;subst eo156;have p158 : 0≤((ji150) : Int):=od_ (by first|(with_reducible assumption)|assumption);have q158 : (ji150) < (x7_1.length : Int):=od_ (by first|(with_reducible assumption)|assumption);obtain ⟨ad158,e158,hx158_0⟩:=Kd.at_bool (Kd.R_reads' HO_7.out).2.2 (ji150) p158 q158;(try rw [← Nbq153.out] at hx158_0)
                 cases e158
                 replace p158:=eq_true p158;replace q158:=eq_true q158
                 go_wp2
                 go_roundg k2
                 case measure=>have:=HK1.out;have:=HK2.out;omega
                 case rel=>exact ⟨(x10_2),(ji150),(by first|rfl|(simp;done)|(simp only [← hji150] <;> (first|rfl|simp))|(simp [*];done)),H',⟨by have:=HK1.out;have:=HK2.out;omega⟩,⟨by (with_reducible repeat (first|apply Kd.R_alloc|apply Kd.R_drewN|apply Kd.R_drew));exact HO_7.out⟩,⟨by (with_reducible repeat (first|apply Kd.R_alloc|apply Kd.R_drewN|apply Kd.R_drew));exact HO_10.out⟩,⟨by (with_reducible repeat (first|apply kN_|apply kD_|apply kA_));exact BK138.out⟩,⟨by repeat (first|(with_reducible first|exact HB.out|apply bA_|apply bN_|apply bD_|refine bS_ ?_ GE138.out)|exact HB.out)⟩⟩
                ·
                 rw [if_neg c155] at H;have c155b0 : (x11_2 == a1) = false:=beq_eq_false_iff_ne.mpr c155;have c155b1 : (x11_2 != a1) = true:=bne_iff_ne.mpr c155
                 by_cases c157 : x10_2.length < 17592186044416
                 ·
                  rw [if_pos c157] at H;have LMc157:=am_ c157;clear c157;obtain ⟨y159,hy159⟩ : ∃ y_ : List Int,y_ = (x10_2 ++ [x11_2]):=⟨_,rfl⟩
                  replace H : (spec_l01Beside.l2 k2 l0 a1 x7_1 y159 ji150) = some r:=by first|(rw [hy159];with_reducible exact H)|(have H2_:=(Option.bind_some _ _).symm.trans H;rw [hy159];with_reducible exact H2_)|(have H2_:=(Option.bind_some _ _).symm.trans H;with_reducible exact H2_)|with_reducible exact H|(rw [hy159];exact H)|exact H
                  have Ny159:=am_ hy159;clear hy159;have H':=am_ H;clear H;have p156 : 0≤(0 : Int):=(by omega)
                  have q156 : 0 < (l0.length : Int):=od_ (by first|(with_reducible assumption)|assumption);obtain ⟨ad156,A156_2,c156_2,e156,hx156_0,hx156_1,hx156_2,hl156_2,hi156_2⟩:=at_T32 HR0.out 0 p156 q156;obtain rfl : ad139 = ad156:=(by injection e156)
                  have qi156 : (0 < l0.length) = True:=eq_true (by omega);(try rw [show ((0 : Int)).toNat = 0 from rfl] at hx156_0);(try rw [show 0 * 3 = 0 from rfl] at hx156_0);(try rw [Addr.add_zero'] at hx156_0);(try rw [show ((0 : Int)).toNat = 0 from rfl] at hx156_1);(try rw [show 0 * 3 = 0 from rfl] at hx156_1);(try rw [Addr.add_zero'] at hx156_1);(try rw [show ((0 : Int)).toNat = 0 from rfl] at hx156_2);(try rw [show 0 * 3 = 0 from rfl] at hx156_2);(try rw [Addr.add_zero'] at hx156_2);replace hx156_0:=(HB.out.cell (bl_ w _ hx156_0)).trans hx156_0;replace hx156_1:=(HB.out.cell (bl_ w _ hx156_1)).trans hx156_1;replace hx156_2:=(HB.out.cell (bl_ w _ hx156_2)).trans hx156_2;have HR156_2:=am_ hi156_2;have HC156_2:=am_ hl156_2;clear hi156_2 hl156_2;replace p156:=eq_true p156;replace q156:=eq_true q156;have p157 : 0≤(0 : Int):=(by omega)
                  have q157 : 0 < (l0.length : Int):=od_ (by first|(with_reducible assumption)|assumption);obtain ⟨ad157,A157_2,c157_2,e157,hx157_0,hx157_1,hx157_2,hl157_2,hi157_2⟩:=at_T32 HR0.out 0 p157 q157;obtain rfl : ad139 = ad157:=(by injection e157)
                  have qi157 : (0 < l0.length) = True:=eq_true (by omega);(try rw [show ((0 : Int)).toNat = 0 from rfl] at hx157_0);(try rw [show 0 * 3 = 0 from rfl] at hx157_0);(try rw [Addr.add_zero'] at hx157_0);(try rw [show ((0 : Int)).toNat = 0 from rfl] at hx157_1);(try rw [show 0 * 3 = 0 from rfl] at hx157_1);(try rw [Addr.add_zero'] at hx157_1);(try rw [show ((0 : Int)).toNat = 0 from rfl] at hx157_2);(try rw [show 0 * 3 = 0 from rfl] at hx157_2);(try rw [Addr.add_zero'] at hx157_2);replace hx157_0:=(HB.out.cell (bl_ w _ hx157_0)).trans hx157_0;replace hx157_1:=(HB.out.cell (bl_ w _ hx157_1)).trans hx157_1;replace hx157_2:=(HB.out.cell (bl_ w _ hx157_2)).trans hx157_2;have HR157_2:=am_ hi157_2;have HC157_2:=am_ hl157_2;clear hi157_2 hl157_2;replace p157:=eq_true p157;replace q157:=eq_true q157;have ea_:=Option.some.inj (hx156_2.symm.trans hx157_2)
                  injection ea_ with ea_ en_ ec_
                  subst ea_;subst ec_;clear en_;obtain ⟨Ao158,co158,eo158⟩:=Kd.R_slice HO_7.out;subst eo158;have p158 : 0≤((ji150) : Int):=od_ (by first|(with_reducible assumption)|assumption);have q158 : (ji150) < (x7_1.length : Int):=od_ (by first|(with_reducible assumption)|assumption);obtain ⟨ad158,e158,hx158_0⟩:=Kd.at_bool (Kd.R_reads' HO_7.out).2.2 (ji150) p158 q158;(try rw [← Nbq153.out] at hx158_0)
                  cases e158
                  replace p158:=eq_true p158;replace q158:=eq_true q158
                  go_wp2_with (first|((with_reducible refine gate_builtin (b:=.append) (xs:=#[.tmp 140,.tmp 142]) rfl ?_);at_builtin;refine Kd.R_append (Kd.int .i64) (w0:=w) w.heap.size rfl (.tmp 140) (.tmp 142) 43 2 (.int .i64 0) 8 rfl Try.underlying43 info2 rfl (by decide) (by omega) u10 x10_2 x11_2 [.int .i64 x11_2] (fun _=>True) (fun _=>False) rfl rfl ?aP (fun _ hk=>hk.elim) ?aF ?aO ?aB ?aS ?aL ?_;(case aP=>exact rfl);(case aB=>exact (by repeat (first|(with_reducible first|exact HB.out|apply bA_|apply bN_|apply bD_|refine bS_ ?_ GE138.out)|exact HB.out)));(case aF=>exact (fun _ _=>trivial));(case aO=>exact (by (with_reducible repeat (first|apply Kd.R_alloc|apply Kd.R_drewN|apply Kd.R_drew));exact HO_10.out));(case aS=>exact (bZ_ (by repeat (first|(with_reducible first|exact HB.out|apply bA_|apply bN_|apply bD_|refine bS_ ?_ GE138.out)|exact HB.out))));(case aL=>have:=LMc157.out;omega);intro v160 w159 ho hb hg hat;rw [← Ny159.out] at ho;have n0_:=am_ (Kd.R_over' (by (with_reducible repeat (first|apply Kd.R_alloc|apply Kd.R_drewN|apply Kd.R_drew));exact HO_7.out) (Kd.R_typed (by (with_reducible repeat (first|apply Kd.R_alloc|apply Kd.R_drewN|apply Kd.R_drew));exact HO_10.out)) (by decide) hg);have n1_:=am_ (blk_grown (g:=gb138) (o:=.cells (arrC .i64 t136) 59 (0,0)) (by (with_reducible repeat (first|apply kN_|apply kD_|apply kA_));exact BK138.out) hg (Kd.R_ne HO_10.out BK138.out (by decide)));have n2_:=am_ (hb);have n3_:=am_ (ho);clear HO_7;clear BK138;clear HB;clear HO_10;have HO_7:=n0_;have BK138:=n1_;have HB:=n2_;have HO161:=n3_;clear n0_ n1_ n2_ n3_;clear ho hb hg hat))
                  go_roundg k2
                  case measure=>have:=HK1.out;have:=HK2.out;omega
                  case rel=>exact ⟨(y159),(ji150),(by first|rfl|(simp;done)|(simp only [← hji150] <;> (first|rfl|simp))|(simp [*];done)),H',⟨by have:=HK1.out;have:=HK2.out;omega⟩,⟨by (with_reducible repeat (first|apply Kd.R_alloc|apply Kd.R_drewN|apply Kd.R_drew));exact HO_7.out⟩,⟨by (with_reducible repeat (first|apply Kd.R_alloc|apply Kd.R_drewN|apply Kd.R_drew));exact HO161.out⟩,⟨by (with_reducible repeat (first|apply kN_|apply kD_|apply kA_));exact BK138.out⟩,⟨by repeat (first|(with_reducible first|exact HB.out|apply bA_|apply bN_|apply bD_|refine bS_ ?_ GE138.out)|exact HB.out)⟩⟩
                 · rw [if_neg c157] at H;exact absurd H (by simp)
               ·
                replace c154:=Bool.eq_false_iff.mpr c154;subst c154;have H1 : (spec_l01Beside.l2 k2 l0 a1 x7_1 x10_2 ji150) = some r:=by rw [if_neg (show ¬ (false = true) by decide)] at H;exact H
                clear H;have H:=H1;clear H1;have H':=am_ H;clear H;have p156 : 0≤(0 : Int):=(by omega)
                have q156 : 0 < (l0.length : Int):=od_ (by first|(with_reducible assumption)|assumption);obtain ⟨ad156,A156_2,c156_2,e156,hx156_0,hx156_1,hx156_2,hl156_2,hi156_2⟩:=at_T32 HR0.out 0 p156 q156;obtain rfl : ad139 = ad156:=(by injection e156)
                have qi156 : (0 < l0.length) = True:=eq_true (by omega);(try rw [show ((0 : Int)).toNat = 0 from rfl] at hx156_0);(try rw [show 0 * 3 = 0 from rfl] at hx156_0);(try rw [Addr.add_zero'] at hx156_0);(try rw [show ((0 : Int)).toNat = 0 from rfl] at hx156_1);(try rw [show 0 * 3 = 0 from rfl] at hx156_1);(try rw [Addr.add_zero'] at hx156_1);(try rw [show ((0 : Int)).toNat = 0 from rfl] at hx156_2);(try rw [show 0 * 3 = 0 from rfl] at hx156_2);(try rw [Addr.add_zero'] at hx156_2);replace hx156_0:=(HB.out.cell (bl_ w _ hx156_0)).trans hx156_0;replace hx156_1:=(HB.out.cell (bl_ w _ hx156_1)).trans hx156_1;replace hx156_2:=(HB.out.cell (bl_ w _ hx156_2)).trans hx156_2;have HR156_2:=am_ hi156_2;have HC156_2:=am_ hl156_2;clear hi156_2 hl156_2;replace p156:=eq_true p156;replace q156:=eq_true q156;have p157 : 0≤(0 : Int):=(by omega)
                have q157 : 0 < (l0.length : Int):=od_ (by first|(with_reducible assumption)|assumption);obtain ⟨ad157,A157_2,c157_2,e157,hx157_0,hx157_1,hx157_2,hl157_2,hi157_2⟩:=at_T32 HR0.out 0 p157 q157;obtain rfl : ad139 = ad157:=(by injection e157)
                have qi157 : (0 < l0.length) = True:=eq_true (by omega);(try rw [show ((0 : Int)).toNat = 0 from rfl] at hx157_0);(try rw [show 0 * 3 = 0 from rfl] at hx157_0);(try rw [Addr.add_zero'] at hx157_0);(try rw [show ((0 : Int)).toNat = 0 from rfl] at hx157_1);(try rw [show 0 * 3 = 0 from rfl] at hx157_1);(try rw [Addr.add_zero'] at hx157_1);(try rw [show ((0 : Int)).toNat = 0 from rfl] at hx157_2);(try rw [show 0 * 3 = 0 from rfl] at hx157_2);(try rw [Addr.add_zero'] at hx157_2);replace hx157_0:=(HB.out.cell (bl_ w _ hx157_0)).trans hx157_0;replace hx157_1:=(HB.out.cell (bl_ w _ hx157_1)).trans hx157_1;replace hx157_2:=(HB.out.cell (bl_ w _ hx157_2)).trans hx157_2;have HR157_2:=am_ hi157_2;have HC157_2:=am_ hl157_2;clear hi157_2 hl157_2;replace p157:=eq_true p157;replace q157:=eq_true q157;have ea_:=Option.some.inj (hx156_2.symm.trans hx157_2)
                injection ea_ with ea_ en_ ec_
                subst ea_;subst ec_;clear en_;obtain ⟨Ao160,co160,eo160⟩:=Kd.R_slice HO_7.out;subst eo160;have p158 : 0≤((ji150) : Int):=od_ (by first|(with_reducible assumption)|assumption);have q158 : (ji150) < (x7_1.length : Int):=od_ (by first|(with_reducible assumption)|assumption);obtain ⟨ad158,e158,hx158_0⟩:=Kd.at_bool (Kd.R_reads' HO_7.out).2.2 (ji150) p158 q158;(try rw [← Nbq153.out] at hx158_0)
                cases e158
                replace p158:=eq_true p158;replace q158:=eq_true q158
                go_wp2
                go_roundg k2
                case measure=>have:=HK1.out;have:=HK2.out;omega
                case rel=>exact ⟨(x10_2),(ji150),(by first|rfl|(simp;done)|(simp only [← hji150] <;> (first|rfl|simp))|(simp [*];done)),H',⟨by have:=HK1.out;have:=HK2.out;omega⟩,⟨by (with_reducible repeat (first|apply Kd.R_alloc|apply Kd.R_drewN|apply Kd.R_drew));exact HO_7.out⟩,⟨by (with_reducible repeat (first|apply Kd.R_alloc|apply Kd.R_drewN|apply Kd.R_drew));exact HO_10.out⟩,⟨by (with_reducible repeat (first|apply kN_|apply kD_|apply kA_));exact BK138.out⟩,⟨by repeat (first|(with_reducible first|exact HB.out|apply bA_|apply bN_|apply bD_|refine bS_ ?_ GE138.out)|exact HB.out)⟩⟩
              · rw [if_neg c152] at H;exact absurd H (by simp)
             · rw [if_neg c151] at H;exact absurd H (by simp)
            ·
             rw [if_neg c149] at H;have c149b0 : decide (x11_2 < (((rd_T32 l0 0).f2).length : Int)) = false:=decide_eq_false c149;clear c149;obtain rfl:=Option.some.inj H;have p156 : 0≤(0 : Int):=(by omega)
             have q156 : 0 < (l0.length : Int):=od_ (by first|(with_reducible assumption)|assumption);obtain ⟨ad156,A156_2,c156_2,e156,hx156_0,hx156_1,hx156_2,hl156_2,hi156_2⟩:=at_T32 HR0.out 0 p156 q156;obtain rfl : ad139 = ad156:=(by injection e156)
             have qi156 : (0 < l0.length) = True:=eq_true (by omega);(try rw [show ((0 : Int)).toNat = 0 from rfl] at hx156_0);(try rw [show 0 * 3 = 0 from rfl] at hx156_0);(try rw [Addr.add_zero'] at hx156_0);(try rw [show ((0 : Int)).toNat = 0 from rfl] at hx156_1);(try rw [show 0 * 3 = 0 from rfl] at hx156_1);(try rw [Addr.add_zero'] at hx156_1);(try rw [show ((0 : Int)).toNat = 0 from rfl] at hx156_2);(try rw [show 0 * 3 = 0 from rfl] at hx156_2);(try rw [Addr.add_zero'] at hx156_2);replace hx156_0:=(HB.out.cell (bl_ w _ hx156_0)).trans hx156_0;replace hx156_1:=(HB.out.cell (bl_ w _ hx156_1)).trans hx156_1;replace hx156_2:=(HB.out.cell (bl_ w _ hx156_2)).trans hx156_2;have HR156_2:=am_ hi156_2;have HC156_2:=am_ hl156_2;clear hi156_2 hl156_2;replace p156:=eq_true p156;replace q156:=eq_true q156;have p157 : 0≤(0 : Int):=(by omega)
             have q157 : 0 < (l0.length : Int):=od_ (by first|(with_reducible assumption)|assumption);obtain ⟨ad157,A157_2,c157_2,e157,hx157_0,hx157_1,hx157_2,hl157_2,hi157_2⟩:=at_T32 HR0.out 0 p157 q157;obtain rfl : ad139 = ad157:=(by injection e157)
             have qi157 : (0 < l0.length) = True:=eq_true (by omega);(try rw [show ((0 : Int)).toNat = 0 from rfl] at hx157_0);(try rw [show 0 * 3 = 0 from rfl] at hx157_0);(try rw [Addr.add_zero'] at hx157_0);(try rw [show ((0 : Int)).toNat = 0 from rfl] at hx157_1);(try rw [show 0 * 3 = 0 from rfl] at hx157_1);(try rw [Addr.add_zero'] at hx157_1);(try rw [show ((0 : Int)).toNat = 0 from rfl] at hx157_2);(try rw [show 0 * 3 = 0 from rfl] at hx157_2);(try rw [Addr.add_zero'] at hx157_2);replace hx157_0:=(HB.out.cell (bl_ w _ hx157_0)).trans hx157_0;replace hx157_1:=(HB.out.cell (bl_ w _ hx157_1)).trans hx157_1;replace hx157_2:=(HB.out.cell (bl_ w _ hx157_2)).trans hx157_2;have HR157_2:=am_ hi157_2;have HC157_2:=am_ hl157_2;clear hi157_2 hl157_2;replace p157:=eq_true p157;replace q157:=eq_true q157;have ea_:=Option.some.inj (hx156_2.symm.trans hx157_2)
             injection ea_ with ea_ en_ ec_
             subst ea_;subst ec_;clear en_
             go_wp2
             go_ret
             exact ⟨_,by first|rfl|(simp [errW_none,errW_some] <;> rfl)|(simp only [← hji6];first|rfl|(simp [errW_none,errW_some] <;> rfl))|(simp [*,errW_none,errW_some] <;> rfl),by (with_reducible repeat (first|apply Kd.R_alloc|apply Kd.R_drewN|apply Kd.R_drew));exact HO_10.out,by repeat (first|(with_reducible first|exact HB.out|apply bA_|apply bN_|apply bD_|refine bS_ ?_ GE138.out)|exact HB.out)⟩
           · rw [if_neg c148] at H;exact absurd H (by simp)
       · rw [if_neg c14] at H;exact absurd H (by simp)
    · rw [if_neg c8] at H;exact absurd H (by simp)
   · rw [if_neg c7] at H;exact absurd H (by simp)
  · rw [if_neg c5] at H;exact absurd H (by simp)
 · rw [if_neg c4] at H;exact absurd H (by simp)
end Go.Proofs.Ytljfjljeabcfgaa.Q
