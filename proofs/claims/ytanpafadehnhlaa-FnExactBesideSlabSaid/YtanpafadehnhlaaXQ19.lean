-- By a program of this session's: of the print's words what this claim needs. Lean checks it.
import Derived.Test.YtanpafadehnhlaaXQ0
import Derived.Test.YtanpafadehnhlaaXQ4
namespace Go.Proofs.Ytanpafadehnhlaa.Q
open Go.RowKit Go.Proofs.YtanpafadehnhlaaW.PrintWords Go.Proofs.YtanpafadehnhlaaW.PrintLast Go.Proofs.YtanpafadehnhlaaW.PrintMore
attribute [local go_sem] max2_int min2_int max_two min_two max_three min_three max_four min_four
set_option linter.unusedVariables false
set_option linter.unusedSimpArgs false
mutual
def spec_l01Beside.l0 : Nat → List (S30) → Int → List Bool → Int → List Int → Option (List Int)
 | 0,_,_,_,_,_=>none
 | k + 1,x0,x1,x7,x8,x338000=>if 0 < (x0.length : Int) then (if x8 < ((rd_T30 x0 0).f1) then (spec_l01Beside.l1 k x0 x1 x7 x8 0 x338000) else (spec_l01Beside.l2 k x0 x1 x7 (([] : List Int)) 0)) else (none)
def spec_l01Beside.l1 : Nat → List (S30) → Int → List Bool → Int → Int → List Int → Option (List Int)
 | 0,_,_,_,_,_,_=>none
 | k + 1,x0,x1,x7,x8,x9,x338000=>if 0 < (x0.length : Int) then (if x9 < ((rd_T30 x0 0).f0) then (if x9 > 0 then (if 0≤x8 then (if x8 < 12 then (if 0≤x9 then (if x9 < 12 then (if x8 * 12 + x9 < (x338000.length : Int) then (spec_l01Beside.j2 k x0 x1 x7 x8 x9 ((rd x338000 (x8 * 12 + x9)) == (wrap64 (x1 + 1))) x338000) else (none)) else (none)) else (none)) else (none)) else (none)) else (spec_l01Beside.j2 k x0 x1 x7 x8 x9 false x338000)) else (spec_l01Beside.l0 k x0 x1 x7 (IntKind.i8.wrap (x8 + 1)) x338000)) else (none)
def spec_l01Beside.j2 : Nat → List (S30) → Int → List Bool → Int → Int → Bool → List Int → Option (List Int)
 | 0,_,_,_,_,_,_,_=>none
 | k + 1,x0,x1,x7,x8,x9,x51,x338000=>if x51 = true then (if 0≤x8 then (if x8 < 12 then (if 0≤(IntKind.i8.wrap (x9 - 1)) then (if (IntKind.i8.wrap (x9 - 1)) < 12 then (if x8 * 12 + (IntKind.i8.wrap (x9 - 1)) < (x338000.length : Int) then (if 0≤(rd x338000 (x8 * 12 + (IntKind.i8.wrap (x9 - 1)))) then (if (rd x338000 (x8 * 12 + (IntKind.i8.wrap (x9 - 1)))) < (x7.length : Int) then (spec_l01Beside.j3 k x0 x1 (x7.set ((rd x338000 (x8 * 12 + (IntKind.i8.wrap (x9 - 1)))) : Int).toNat true) x8 x9 x338000) else (none)) else (none)) else (none)) else (none)) else (none)) else (none)) else (none)) else (spec_l01Beside.j3 k x0 x1 x7 x8 x9 x338000)
def spec_l01Beside.j3 : Nat → List (S30) → Int → List Bool → Int → Int → List Int → Option (List Int)
 | 0,_,_,_,_,_,_=>none
 | k + 1,x0,x1,x7,x8,x9,x338000=>if x9 > 0 then (if 0≤x8 then (if x8 < 12 then (if 0≤(IntKind.i8.wrap (x9 - 1)) then (if (IntKind.i8.wrap (x9 - 1)) < 12 then (if x8 * 12 + (IntKind.i8.wrap (x9 - 1)) < (x338000.length : Int) then (spec_l01Beside.j4 k x0 x1 x7 x8 x9 ((rd x338000 (x8 * 12 + (IntKind.i8.wrap (x9 - 1)))) == (wrap64 (x1 + 1))) x338000) else (none)) else (none)) else (none)) else (none)) else (none)) else (spec_l01Beside.j4 k x0 x1 x7 x8 x9 false x338000)
def spec_l01Beside.j4 : Nat → List (S30) → Int → List Bool → Int → Int → Bool → List Int → Option (List Int)
 | 0,_,_,_,_,_,_,_=>none
 | k + 1,x0,x1,x7,x8,x9,x72,x338000=>if x72 = true then (if 0≤x8 then (if x8 < 12 then (if 0≤x9 then (if x9 < 12 then (if x8 * 12 + x9 < (x338000.length : Int) then (if 0≤(rd x338000 (x8 * 12 + x9)) then (if (rd x338000 (x8 * 12 + x9)) < (x7.length : Int) then (spec_l01Beside.j5 k x0 x1 (x7.set ((rd x338000 (x8 * 12 + x9)) : Int).toNat true) x8 x9 x338000) else (none)) else (none)) else (none)) else (none)) else (none)) else (none)) else (none)) else (spec_l01Beside.j5 k x0 x1 x7 x8 x9 x338000)
def spec_l01Beside.j5 : Nat → List (S30) → Int → List Bool → Int → Int → List Int → Option (List Int)
 | 0,_,_,_,_,_,_=>none
 | k + 1,x0,x1,x7,x8,x9,x338000=>if x8 > 0 then (if 0≤x8 then (if x8 < 12 then (if 0≤x9 then (if x9 < 12 then (if x8 * 12 + x9 < (x338000.length : Int) then (spec_l01Beside.j6 k x0 x1 x7 x8 x9 ((rd x338000 (x8 * 12 + x9)) == (wrap64 (x1 + 1))) x338000) else (none)) else (none)) else (none)) else (none)) else (none)) else (spec_l01Beside.j6 k x0 x1 x7 x8 x9 false x338000)
def spec_l01Beside.j6 : Nat → List (S30) → Int → List Bool → Int → Int → Bool → List Int → Option (List Int)
 | 0,_,_,_,_,_,_,_=>none
 | k + 1,x0,x1,x7,x8,x9,x91,x338000=>if x91 = true then (if 0≤(IntKind.i8.wrap (x8 - 1)) then (if (IntKind.i8.wrap (x8 - 1)) < 12 then (if 0≤x9 then (if x9 < 12 then (if (IntKind.i8.wrap (x8 - 1)) * 12 + x9 < (x338000.length : Int) then (if 0≤(rd x338000 ((IntKind.i8.wrap (x8 - 1)) * 12 + x9)) then (if (rd x338000 ((IntKind.i8.wrap (x8 - 1)) * 12 + x9)) < (x7.length : Int) then ((some (x7.set ((rd x338000 ((IntKind.i8.wrap (x8 - 1)) * 12 + x9)) : Int).toNat true : List Bool)).bind fun y349=>(if x8 > 0 then (if (rd x338000 ((IntKind.i8.wrap (x8 - 1)) * 12 + x9)) = (wrap64 (x1 + 1)) then (if 0≤x8 then (if x8 < 12 then (if x8 * 12 + x9 < (x338000.length : Int) then (if 0≤(rd x338000 (x8 * 12 + x9)) then (if (rd x338000 (x8 * 12 + x9)) < (x7.length : Int) then (spec_l01Beside.l1 k x0 x1 (y349.set ((rd x338000 (x8 * 12 + x9)) : Int).toNat true) x8 (IntKind.i8.wrap (x9 + 1)) x338000) else (none)) else (none)) else (none)) else (none)) else (none)) else (spec_l01Beside.l1 k x0 x1 y349 x8 (IntKind.i8.wrap (x9 + 1)) x338000)) else (spec_l01Beside.l1 k x0 x1 y349 x8 (IntKind.i8.wrap (x9 + 1)) x338000))) else (none)) else (none)) else (none)) else (none)) else (none)) else (none)) else (none)) else (if x8 > 0 then (if 0≤(IntKind.i8.wrap (x8 - 1)) then (if (IntKind.i8.wrap (x8 - 1)) < 12 then (if 0≤x9 then (if x9 < 12 then (if (IntKind.i8.wrap (x8 - 1)) * 12 + x9 < (x338000.length : Int) then (if (rd x338000 ((IntKind.i8.wrap (x8 - 1)) * 12 + x9)) = (wrap64 (x1 + 1)) then (if 0≤x8 then (if x8 < 12 then (if x8 * 12 + x9 < (x338000.length : Int) then (if 0≤(rd x338000 (x8 * 12 + x9)) then (if (rd x338000 (x8 * 12 + x9)) < (x7.length : Int) then (spec_l01Beside.l1 k x0 x1 (x7.set ((rd x338000 (x8 * 12 + x9)) : Int).toNat true) x8 (IntKind.i8.wrap (x9 + 1)) x338000) else (none)) else (none)) else (none)) else (none)) else (none)) else (spec_l01Beside.l1 k x0 x1 x7 x8 (IntKind.i8.wrap (x9 + 1)) x338000)) else (none)) else (none)) else (none)) else (none)) else (none)) else (spec_l01Beside.l1 k x0 x1 x7 x8 (IntKind.i8.wrap (x9 + 1)) x338000))
def spec_l01Beside.l2 : Nat → List (S30) → Int → List Bool → List Int → Int → Option (List Int)
 | 0,_,_,_,_,_=>none
 | k + 1,x0,x1,x7,x10,x11=>if 0 < (x0.length : Int) then (if x11 < (((rd_T30 x0 0).f2).length : Int) then (if 0≤(wrap64 (x11 + 1)) then (if (wrap64 (x11 + 1)) < (x7.length : Int) then (if rdOf false x7 (wrap64 (x11 + 1)) = true then (if x11 = x1 then (spec_l01Beside.l2 k x0 x1 x7 x10 (wrap64 (x11 + 1))) else (if x10.length < 17592186044416 then (spec_l01Beside.l2 k x0 x1 x7 (x10 ++ [x11]) (wrap64 (x11 + 1))) else (none))) else (spec_l01Beside.l2 k x0 x1 x7 x10 (wrap64 (x11 + 1)))) else (none)) else (none)) else (some x10)) else (none)
end
def spec_l01Beside.f (k : Nat) (l0 : List (S30)) (a1 : Int) : Option (List Int) := (spec_l01Lay.f k l0).bind fun bt335 => (if bt335.1.length = 144 then (if 0 < (l0.length : Int) then (if 0 ≤ (wrap64 ((((rd_T30 l0 0).f2).length : Int) + 1)) then (if (wrap64 ((((rd_T30 l0 0).f2).length : Int) + 1) : Int).toNat ≤ 281474976710656 then (spec_l01Beside.l0 k l0 a1 (List.replicate (wrap64 ((((rd_T30 l0 0).f2).length : Int) + 1) : Int).toNat false) 0 bt335.1) else (none)) else (none)) else (none)) else (none))
theorem spec_l01Beside.mono_l : ∀ k, (∀ y0 y1 y2 y3 y4, LeO (spec_l01Beside.l0 k y0 y1 y2 y3 y4) (spec_l01Beside.l0 (k + 1) y0 y1 y2 y3 y4)) ∧ (∀ y0 y1 y2 y3 y4 y5, LeO (spec_l01Beside.l1 k y0 y1 y2 y3 y4 y5) (spec_l01Beside.l1 (k + 1) y0 y1 y2 y3 y4 y5)) ∧ (∀ y0 y1 y2 y3 y4 y5 y6, LeO (spec_l01Beside.j2 k y0 y1 y2 y3 y4 y5 y6) (spec_l01Beside.j2 (k + 1) y0 y1 y2 y3 y4 y5 y6)) ∧ (∀ y0 y1 y2 y3 y4 y5, LeO (spec_l01Beside.j3 k y0 y1 y2 y3 y4 y5) (spec_l01Beside.j3 (k + 1) y0 y1 y2 y3 y4 y5)) ∧ (∀ y0 y1 y2 y3 y4 y5 y6, LeO (spec_l01Beside.j4 k y0 y1 y2 y3 y4 y5 y6) (spec_l01Beside.j4 (k + 1) y0 y1 y2 y3 y4 y5 y6)) ∧ (∀ y0 y1 y2 y3 y4 y5, LeO (spec_l01Beside.j5 k y0 y1 y2 y3 y4 y5) (spec_l01Beside.j5 (k + 1) y0 y1 y2 y3 y4 y5)) ∧ (∀ y0 y1 y2 y3 y4 y5 y6, LeO (spec_l01Beside.j6 k y0 y1 y2 y3 y4 y5 y6) (spec_l01Beside.j6 (k + 1) y0 y1 y2 y3 y4 y5 y6)) ∧ (∀ y0 y1 y2 y3 y4, LeO (spec_l01Beside.l2 k y0 y1 y2 y3 y4) (spec_l01Beside.l2 (k + 1) y0 y1 y2 y3 y4))
 | 0=>⟨fun _ _ _ _ _ r h=>by simp [spec_l01Beside.l0] at h,fun _ _ _ _ _ _ r h=>by simp [spec_l01Beside.l1] at h,fun _ _ _ _ _ _ _ r h=>by simp [spec_l01Beside.j2] at h,fun _ _ _ _ _ _ r h=>by simp [spec_l01Beside.j3] at h,fun _ _ _ _ _ _ _ r h=>by simp [spec_l01Beside.j4] at h,fun _ _ _ _ _ _ r h=>by simp [spec_l01Beside.j5] at h,fun _ _ _ _ _ _ _ r h=>by simp [spec_l01Beside.j6] at h,fun _ _ _ _ _ r h=>by simp [spec_l01Beside.l2] at h⟩
 | k + 1=>by
  obtain ⟨ih0,ih1,ih2,ih3,ih4,ih5,ih6,ih7⟩:=spec_l01Beside.mono_l k;refine ⟨?_,?_,?_,?_,?_,?_,?_,?_⟩
  ·
   intro y0 y1 y2 y3 y4
   unfold spec_l01Beside.l0
   repeat' first
   | (with_reducible exact ih0 _ _ _ _ _)
   | (with_reducible exact ih1 _ _ _ _ _ _)
   | (with_reducible exact ih2 _ _ _ _ _ _ _)
   | (with_reducible exact ih3 _ _ _ _ _ _)
   | (with_reducible exact ih4 _ _ _ _ _ _ _)
   | (with_reducible exact ih5 _ _ _ _ _ _)
   | (with_reducible exact ih6 _ _ _ _ _ _ _)
   | (with_reducible exact ih7 _ _ _ _ _)
   | (with_reducible exact spec_l01Lay.mono _ _)
   | (with_reducible exact LeO.refl _)
   | (with_reducible exact LeO.none _)
   | (with_reducible refine LeO.ite ?_ ?_)
   | (with_reducible refine LeO.bind ?_ (fun _=>?_))
   | exact ih0 _ _ _ _ _
   | exact ih1 _ _ _ _ _ _
   | exact ih2 _ _ _ _ _ _ _
   | exact ih3 _ _ _ _ _ _
   | exact ih4 _ _ _ _ _ _ _
   | exact ih5 _ _ _ _ _ _
   | exact ih6 _ _ _ _ _ _ _
   | exact ih7 _ _ _ _ _
   | exact spec_l01Lay.mono _ _
   | exact LeO.none _
   | refine LeO.ite ?_ ?_
   | refine LeO.bind ?_ (fun _=>?_)
  ·
   intro y0 y1 y2 y3 y4 y5
   unfold spec_l01Beside.l1
   repeat' first
   | (with_reducible exact ih0 _ _ _ _ _)
   | (with_reducible exact ih1 _ _ _ _ _ _)
   | (with_reducible exact ih2 _ _ _ _ _ _ _)
   | (with_reducible exact ih3 _ _ _ _ _ _)
   | (with_reducible exact ih4 _ _ _ _ _ _ _)
   | (with_reducible exact ih5 _ _ _ _ _ _)
   | (with_reducible exact ih6 _ _ _ _ _ _ _)
   | (with_reducible exact ih7 _ _ _ _ _)
   | (with_reducible exact spec_l01Lay.mono _ _)
   | (with_reducible exact LeO.refl _)
   | (with_reducible exact LeO.none _)
   | (with_reducible refine LeO.ite ?_ ?_)
   | (with_reducible refine LeO.bind ?_ (fun _=>?_))
   | exact ih0 _ _ _ _ _
   | exact ih1 _ _ _ _ _ _
   | exact ih2 _ _ _ _ _ _ _
   | exact ih3 _ _ _ _ _ _
   | exact ih4 _ _ _ _ _ _ _
   | exact ih5 _ _ _ _ _ _
   | exact ih6 _ _ _ _ _ _ _
   | exact ih7 _ _ _ _ _
   | exact spec_l01Lay.mono _ _
   | exact LeO.none _
   | refine LeO.ite ?_ ?_
   | refine LeO.bind ?_ (fun _=>?_)
  ·
   intro y0 y1 y2 y3 y4 y5 y6
   unfold spec_l01Beside.j2
   repeat' first
   | (with_reducible exact ih0 _ _ _ _ _)
   | (with_reducible exact ih1 _ _ _ _ _ _)
   | (with_reducible exact ih2 _ _ _ _ _ _ _)
   | (with_reducible exact ih3 _ _ _ _ _ _)
   | (with_reducible exact ih4 _ _ _ _ _ _ _)
   | (with_reducible exact ih5 _ _ _ _ _ _)
   | (with_reducible exact ih6 _ _ _ _ _ _ _)
   | (with_reducible exact ih7 _ _ _ _ _)
   | (with_reducible exact spec_l01Lay.mono _ _)
   | (with_reducible exact LeO.refl _)
   | (with_reducible exact LeO.none _)
   | (with_reducible refine LeO.ite ?_ ?_)
   | (with_reducible refine LeO.bind ?_ (fun _=>?_))
   | exact ih0 _ _ _ _ _
   | exact ih1 _ _ _ _ _ _
   | exact ih2 _ _ _ _ _ _ _
   | exact ih3 _ _ _ _ _ _
   | exact ih4 _ _ _ _ _ _ _
   | exact ih5 _ _ _ _ _ _
   | exact ih6 _ _ _ _ _ _ _
   | exact ih7 _ _ _ _ _
   | exact spec_l01Lay.mono _ _
   | exact LeO.none _
   | refine LeO.ite ?_ ?_
   | refine LeO.bind ?_ (fun _=>?_)
  ·
   intro y0 y1 y2 y3 y4 y5
   unfold spec_l01Beside.j3
   repeat' first
   | (with_reducible exact ih0 _ _ _ _ _)
   | (with_reducible exact ih1 _ _ _ _ _ _)
   | (with_reducible exact ih2 _ _ _ _ _ _ _)
   | (with_reducible exact ih3 _ _ _ _ _ _)
   | (with_reducible exact ih4 _ _ _ _ _ _ _)
   | (with_reducible exact ih5 _ _ _ _ _ _)
   | (with_reducible exact ih6 _ _ _ _ _ _ _)
   | (with_reducible exact ih7 _ _ _ _ _)
   | (with_reducible exact spec_l01Lay.mono _ _)
   | (with_reducible exact LeO.refl _)
   | (with_reducible exact LeO.none _)
   | (with_reducible refine LeO.ite ?_ ?_)
   | (with_reducible refine LeO.bind ?_ (fun _=>?_))
   | exact ih0 _ _ _ _ _
   | exact ih1 _ _ _ _ _ _
   | exact ih2 _ _ _ _ _ _ _
   | exact ih3 _ _ _ _ _ _
   | exact ih4 _ _ _ _ _ _ _
   | exact ih5 _ _ _ _ _ _
   | exact ih6 _ _ _ _ _ _ _
   | exact ih7 _ _ _ _ _
   | exact spec_l01Lay.mono _ _
   | exact LeO.none _
   | refine LeO.ite ?_ ?_
   | refine LeO.bind ?_ (fun _=>?_)
  ·
   intro y0 y1 y2 y3 y4 y5 y6
   unfold spec_l01Beside.j4
   repeat' first
   | (with_reducible exact ih0 _ _ _ _ _)
   | (with_reducible exact ih1 _ _ _ _ _ _)
   | (with_reducible exact ih2 _ _ _ _ _ _ _)
   | (with_reducible exact ih3 _ _ _ _ _ _)
   | (with_reducible exact ih4 _ _ _ _ _ _ _)
   | (with_reducible exact ih5 _ _ _ _ _ _)
   | (with_reducible exact ih6 _ _ _ _ _ _ _)
   | (with_reducible exact ih7 _ _ _ _ _)
   | (with_reducible exact spec_l01Lay.mono _ _)
   | (with_reducible exact LeO.refl _)
   | (with_reducible exact LeO.none _)
   | (with_reducible refine LeO.ite ?_ ?_)
   | (with_reducible refine LeO.bind ?_ (fun _=>?_))
   | exact ih0 _ _ _ _ _
   | exact ih1 _ _ _ _ _ _
   | exact ih2 _ _ _ _ _ _ _
   | exact ih3 _ _ _ _ _ _
   | exact ih4 _ _ _ _ _ _ _
   | exact ih5 _ _ _ _ _ _
   | exact ih6 _ _ _ _ _ _ _
   | exact ih7 _ _ _ _ _
   | exact spec_l01Lay.mono _ _
   | exact LeO.none _
   | refine LeO.ite ?_ ?_
   | refine LeO.bind ?_ (fun _=>?_)
  ·
   intro y0 y1 y2 y3 y4 y5
   unfold spec_l01Beside.j5
   repeat' first
   | (with_reducible exact ih0 _ _ _ _ _)
   | (with_reducible exact ih1 _ _ _ _ _ _)
   | (with_reducible exact ih2 _ _ _ _ _ _ _)
   | (with_reducible exact ih3 _ _ _ _ _ _)
   | (with_reducible exact ih4 _ _ _ _ _ _ _)
   | (with_reducible exact ih5 _ _ _ _ _ _)
   | (with_reducible exact ih6 _ _ _ _ _ _ _)
   | (with_reducible exact ih7 _ _ _ _ _)
   | (with_reducible exact spec_l01Lay.mono _ _)
   | (with_reducible exact LeO.refl _)
   | (with_reducible exact LeO.none _)
   | (with_reducible refine LeO.ite ?_ ?_)
   | (with_reducible refine LeO.bind ?_ (fun _=>?_))
   | exact ih0 _ _ _ _ _
   | exact ih1 _ _ _ _ _ _
   | exact ih2 _ _ _ _ _ _ _
   | exact ih3 _ _ _ _ _ _
   | exact ih4 _ _ _ _ _ _ _
   | exact ih5 _ _ _ _ _ _
   | exact ih6 _ _ _ _ _ _ _
   | exact ih7 _ _ _ _ _
   | exact spec_l01Lay.mono _ _
   | exact LeO.none _
   | refine LeO.ite ?_ ?_
   | refine LeO.bind ?_ (fun _=>?_)
  ·
   intro y0 y1 y2 y3 y4 y5 y6
   unfold spec_l01Beside.j6
   repeat' first
   | (with_reducible exact ih0 _ _ _ _ _)
   | (with_reducible exact ih1 _ _ _ _ _ _)
   | (with_reducible exact ih2 _ _ _ _ _ _ _)
   | (with_reducible exact ih3 _ _ _ _ _ _)
   | (with_reducible exact ih4 _ _ _ _ _ _ _)
   | (with_reducible exact ih5 _ _ _ _ _ _)
   | (with_reducible exact ih6 _ _ _ _ _ _ _)
   | (with_reducible exact ih7 _ _ _ _ _)
   | (with_reducible exact spec_l01Lay.mono _ _)
   | (with_reducible exact LeO.refl _)
   | (with_reducible exact LeO.none _)
   | (with_reducible refine LeO.ite ?_ ?_)
   | (with_reducible refine LeO.bind ?_ (fun _=>?_))
   | exact ih0 _ _ _ _ _
   | exact ih1 _ _ _ _ _ _
   | exact ih2 _ _ _ _ _ _ _
   | exact ih3 _ _ _ _ _ _
   | exact ih4 _ _ _ _ _ _ _
   | exact ih5 _ _ _ _ _ _
   | exact ih6 _ _ _ _ _ _ _
   | exact ih7 _ _ _ _ _
   | exact spec_l01Lay.mono _ _
   | exact LeO.none _
   | refine LeO.ite ?_ ?_
   | refine LeO.bind ?_ (fun _=>?_)
  ·
   intro y0 y1 y2 y3 y4
   unfold spec_l01Beside.l2
   repeat' first
   | (with_reducible exact ih0 _ _ _ _ _)
   | (with_reducible exact ih1 _ _ _ _ _ _)
   | (with_reducible exact ih2 _ _ _ _ _ _ _)
   | (with_reducible exact ih3 _ _ _ _ _ _)
   | (with_reducible exact ih4 _ _ _ _ _ _ _)
   | (with_reducible exact ih5 _ _ _ _ _ _)
   | (with_reducible exact ih6 _ _ _ _ _ _ _)
   | (with_reducible exact ih7 _ _ _ _ _)
   | (with_reducible exact spec_l01Lay.mono _ _)
   | (with_reducible exact LeO.refl _)
   | (with_reducible exact LeO.none _)
   | (with_reducible refine LeO.ite ?_ ?_)
   | (with_reducible refine LeO.bind ?_ (fun _=>?_))
   | exact ih0 _ _ _ _ _
   | exact ih1 _ _ _ _ _ _
   | exact ih2 _ _ _ _ _ _ _
   | exact ih3 _ _ _ _ _ _
   | exact ih4 _ _ _ _ _ _ _
   | exact ih5 _ _ _ _ _ _
   | exact ih6 _ _ _ _ _ _ _
   | exact ih7 _ _ _ _ _
   | exact spec_l01Lay.mono _ _
   | exact LeO.none _
   | refine LeO.ite ?_ ?_
   | refine LeO.bind ?_ (fun _=>?_)
theorem spec_l01Beside.mono : ∀ a0 a1 k, LeO (spec_l01Beside.f k a0 a1) (spec_l01Beside.f (k + 1) a0 a1) := by
 intro a0 a1 k;obtain ⟨ih0,ih1,ih2,ih3,ih4,ih5,ih6,ih7⟩:=spec_l01Beside.mono_l k
 unfold spec_l01Beside.f
 repeat' first
   | (with_reducible exact ih0 _ _ _ _ _)
   | (with_reducible exact ih1 _ _ _ _ _ _)
   | (with_reducible exact ih2 _ _ _ _ _ _ _)
   | (with_reducible exact ih3 _ _ _ _ _ _)
   | (with_reducible exact ih4 _ _ _ _ _ _ _)
   | (with_reducible exact ih5 _ _ _ _ _ _)
   | (with_reducible exact ih6 _ _ _ _ _ _ _)
   | (with_reducible exact ih7 _ _ _ _ _)
   | (with_reducible exact spec_l01Lay.mono _ _)
   | (with_reducible exact LeO.refl _)
   | (with_reducible exact LeO.none _)
   | (with_reducible refine LeO.ite ?_ ?_)
   | (with_reducible refine LeO.bind ?_ (fun _=>?_))
   | exact ih0 _ _ _ _ _
   | exact ih1 _ _ _ _ _ _
   | exact ih2 _ _ _ _ _ _ _
   | exact ih3 _ _ _ _ _ _
   | exact ih4 _ _ _ _ _ _ _
   | exact ih5 _ _ _ _ _ _
   | exact ih6 _ _ _ _ _ _ _
   | exact ih7 _ _ _ _ _
   | exact spec_l01Lay.mono _ _
   | exact LeO.none _
   | refine LeO.ite ?_ ?_
   | refine LeO.bind ?_ (fun _=>?_)
set_option maxHeartbeats 8000000 in
set_option maxRecDepth 100000 in
theorem spec_l01Beside.calls (k : Nat) (A0 : Option Addr) (c0 : Nat) (l0 : List (S30)) (a1 : Int) (r : List Int) (w : World) (hr0 : Kd.C k30 w A0 l0.length l0) (hc0 : l0.length ≤ c0) (h : spec_l01Beside.f k l0 a1 = some r) :
  Calls Try.prog 67 #[.pointer A0,.int .i64 a1] w fun e w'=>∃ v0_ : Value,e = .returned (v0_) ∧ Kd.R (Kd.int .i64) 2 w' w.heap.size (fun _=>True) v0_ r ∧ Below w.heap.size w w':=by
 have hu83:=Try.underlying83;have HR0:=am_ hr0;have HC0:=am_ hc0;clear hr0 hc0;have HB:=am_ (Below.refl w.heap.size w);have H : ((spec_l01Lay.f k l0).bind fun bt335=>(if bt335.1.length = 144 then (if 0 < (l0.length : Int) then (if 0≤(wrap64 ((((rd_T30 l0 0).f2).length : Int) + 1)) then (if (wrap64 ((((rd_T30 l0 0).f2).length : Int) + 1) : Int).toNat≤281474976710656 then (spec_l01Beside.l0 k l0 a1 (List.replicate (wrap64 ((((rd_T30 l0 0).f2).length : Int) + 1) : Int).toNat false) 0 bt335.1) else (none)) else (none)) else (none)) else (none))) = some r:=h;clear h;replace H:=Option.bind_eq_some_iff.mp H;obtain ⟨⟨t335,t336⟩,A30,H⟩:=H;replace H : (if t335.length = 144 then (if 0 < (l0.length : Int) then (if 0≤(wrap64 ((((rd_T30 l0 0).f2).length : Int) + 1)) then (if (wrap64 ((((rd_T30 l0 0).f2).length : Int) + 1) : Int).toNat≤281474976710656 then (spec_l01Beside.l0 k l0 a1 (List.replicate (wrap64 ((((rd_T30 l0 0).f2).length : Int) + 1) : Int).toNat false) 0 t335) else (none)) else (none)) else (none)) else (none)) = some r:=H;have A3:=am_ A30;clear A30
 by_cases c4 : t335.length = 144
 ·
  rw [if_pos c4] at H;have c4b0:=eq_true c4;have c4b1 : decide (t335.length = 144) = true:=decide_eq_true c4;clear c4
  by_cases c5 : 0 < (l0.length : Int)
  ·
   rw [if_pos c5] at H;have c5b0 : decide (0 < (l0.length : Int)) = true:=decide_eq_true c5;have c5b1 : decide (0 < l0.length) = true:=decide_eq_true (by omega);clear c5;obtain ⟨ji6,hji6⟩ : ∃ j_ : Int,(wrap64 ((((rd_T30 l0 0).f2).length : Int) + 1)) = j_:=⟨_,rfl⟩
   replace H : (if 0≤(ji6) then (if (ji6 : Int).toNat≤281474976710656 then (spec_l01Beside.l0 k l0 a1 (List.replicate (ji6 : Int).toNat false) 0 t335) else (none)) else (none)) = some r:=by first|(rw [hji6] at H;exact H)|(simp only [hji6] at H ⊢;exact H)
   (try rw [hji6] at A3);have hji6w : (IntKind.i64.wrap ((((rd_T30 l0 0).f2).length : Int) + 1)) = ji6:=(i64_w _).trans hji6
   by_cases c7 : 0≤(ji6)
   ·
    rw [if_pos c7] at H;have c7b0:=eq_true c7;have c7b1 : decide (0≤(ji6)) = true:=decide_eq_true c7;clear c7
    by_cases c8 : (ji6 : Int).toNat≤281474976710656
    ·
     rw [if_pos c8] at H;have c8b0:=eq_true c8;have c8b1 : decide ((ji6 : Int).toNat≤281474976710656) = true:=decide_eq_true c8;clear c8;obtain ⟨y340,hy340⟩ : ∃ y_ : List Bool,y_ = (List.replicate (ji6 : Int).toNat false):=⟨_,rfl⟩
     replace H : (spec_l01Beside.l0 k l0 a1 y340 0 t335) = some r:=by first|(rw [hy340];with_reducible exact H)|(have H2_:=(Option.bind_some _ _).symm.trans H;rw [hy340];with_reducible exact H2_)|(have H2_:=(Option.bind_some _ _).symm.trans H;with_reducible exact H2_)|with_reducible exact H|(rw [hy340];exact H)|exact H
     have Ny340:=am_ hy340;clear hy340;have H':=am_ H;clear H
     go_enter Try.func67,Try.ntmps67
     go_wp2_with (first|((with_reducible refine gate_callee (f:=55) rfl ?_);refine goesL_ (some 14) rfl rfl Try.func55 (by kernel_rfl) rfl #[.pointer A0] rfl (by (try simp only [List.map_toArray,List.map_cons,List.map_nil]);first|done|rfl|(simp only [List.length_drop,List.length_take];rfl)) ?_;(with_reducible refine (spec_l01Lay.calls k _ c0 l0 t335 t336 _ ?side1 ?side2 A3.out).mono ?_);(case side1=>repeat (first|exact HR0.out|(with_reducible refine Kd.C_alloc ?_ _)|(with_reducible refine Kd.C_drewN ?_ _)|(with_reducible refine Kd.C_drew ?_)));(case side2=>exact HC0.out);rintro e w9 ⟨rfl,hb⟩;refine ⟨_,rfl,?_⟩;have n0_:=am_ (bT_ (by repeat (first|(with_reducible first|exact HB.out|apply bA_|apply bN_|apply bD_)|exact HB.out)) hb);clear HB;have HB:=n0_;clear n0_;(try clear hb);(try clear hb2);(try clear hk);(try clear hi))|((with_reducible refine gate_dst (N:=5) rfl ?_);refine box_event ?hg (N:=5) ?hd (cs:=(arrC .i64 (arrZ 144))) (t:=83) ?hr ?_;(case hd=>rfl);(case hg=>rfl);(case hr=>exact arr_alloc rfl .i64 144 (by kernel_rfl));intro gb337 hg w10 hbox hb;have n0_:=am_ (bT_ (by repeat (first|(with_reducible first|exact HB.out|apply bA_|apply bN_|apply bD_)|exact HB.out)) hb);have n1_:=am_ (hbox);have n2_:=am_ ((by rw [hg];exact (below_size (by repeat (first|(with_reducible first|exact HB.out|apply bA_|apply bN_|apply bD_)|exact HB.out))) : w.heap.size≤gb337));have n3_:=n2_;clear HB;have HB:=n0_;have BK337:=n1_;have GW337:=n2_;have GE337:=n3_;clear n0_ n1_ n2_ n3_;clear hb hbox hg)|((with_reducible refine gate_store (t:=83) (p:=5) rfl ?_);refine arr_store (p:=5) (v:=?vv_w11) (n:=144) (k:=.i64) (g:=gb337) (l:=(arrZ 144)) (l2:=t335) ?hg ?hn (t:=83) ?ho ?hp ?hv (by (with_reducible repeat (first|apply kN_|apply kD_|apply kA_));exact BK337.out) (by kernel_rfl) (arrZ_length _) (od_ (by first|(with_reducible assumption)|assumption)) ?_;(case ho=>rfl);(case hg=>rfl);(case hn=>rfl);(case hp=>rfl);(case hv=>rfl);intro w11 hg hx;have n0_:=am_ (hx);have n1_:=am_ (Below.grown (by repeat (first|(with_reducible first|exact HB.out|apply bA_|apply bN_|apply bD_|refine bS_ ?_ GE337.out)|exact HB.out)) hg (below_size (by repeat (first|(with_reducible first|exact HB.out|apply bA_|apply bN_|apply bD_|refine bS_ ?_ GE337.out)|exact HB.out))) (fun k_ e_=>by cases e_;exact GE337.out));clear BK337;clear HB;have BK337:=n0_;have HB:=n1_;clear n0_ n1_;clear hg hx;have p338 : 0≤(0 : Int):=(by omega);have q338 : 0 < (l0.length : Int):=od_ (by first|(with_reducible assumption)|assumption);obtain ⟨ad338,A338_2,c338_2,e338,hx338_0,hx338_1,hx338_2,hl338_2,hi338_2⟩:=at_T30 HR0.out 0 p338 q338;cases e338;have qi338 : (0 < l0.length) = True:=eq_true (by omega);(try rw [show ((0 : Int)).toNat = 0 from rfl] at hx338_0);(try rw [show 0 * 3 = 0 from rfl] at hx338_0);(try rw [Addr.add_zero'] at hx338_0);(try rw [show ((0 : Int)).toNat = 0 from rfl] at hx338_1);(try rw [show 0 * 3 = 0 from rfl] at hx338_1);(try rw [Addr.add_zero'] at hx338_1);(try rw [show ((0 : Int)).toNat = 0 from rfl] at hx338_2);(try rw [show 0 * 3 = 0 from rfl] at hx338_2);(try rw [Addr.add_zero'] at hx338_2);replace hx338_0:=(HB.out.cell (bl_ w _ hx338_0)).trans hx338_0;replace hx338_1:=(HB.out.cell (bl_ w _ hx338_1)).trans hx338_1;replace hx338_2:=(HB.out.cell (bl_ w _ hx338_2)).trans hx338_2;have HR338_2:=am_ hi338_2;have HC338_2:=am_ hl338_2;clear hi338_2 hl338_2;replace p338:=eq_true p338;replace q338:=eq_true q338;have p339 : 0≤(0 : Int):=(by omega);have q339 : 0 < (l0.length : Int):=od_ (by first|(with_reducible assumption)|assumption);obtain ⟨ad339,A339_2,c339_2,e339,hx339_0,hx339_1,hx339_2,hl339_2,hi339_2⟩:=at_T30 HR0.out 0 p339 q339;obtain rfl : ad338 = ad339:=(by injection e339);have qi339 : (0 < l0.length) = True:=eq_true (by omega);(try rw [show ((0 : Int)).toNat = 0 from rfl] at hx339_0);(try rw [show 0 * 3 = 0 from rfl] at hx339_0);(try rw [Addr.add_zero'] at hx339_0);(try rw [show ((0 : Int)).toNat = 0 from rfl] at hx339_1);(try rw [show 0 * 3 = 0 from rfl] at hx339_1);(try rw [Addr.add_zero'] at hx339_1);(try rw [show ((0 : Int)).toNat = 0 from rfl] at hx339_2);(try rw [show 0 * 3 = 0 from rfl] at hx339_2);(try rw [Addr.add_zero'] at hx339_2);replace hx339_0:=(HB.out.cell (bl_ w _ hx339_0)).trans hx339_0;replace hx339_1:=(HB.out.cell (bl_ w _ hx339_1)).trans hx339_1;replace hx339_2:=(HB.out.cell (bl_ w _ hx339_2)).trans hx339_2;have HR339_2:=am_ hi339_2;have HC339_2:=am_ hl339_2;clear hi339_2 hl339_2;replace p339:=eq_true p339;replace q339:=eq_true q339;have ea_:=Option.some.inj (hx338_2.symm.trans hx339_2);injection ea_ with ea_ en_ ec_;subst ea_;subst ec_;clear en_)|((with_reducible refine gate_dst (N:=23) rfl ?_);refine Kd.R_make Kd.bool _ 4 rfl (N:=23) rfl 102 _ _ rfl ji6 rfl rfl Try.underlying102 (.bool false) 1 info4 rfl (by decide) (by omega) false (ok:=fun _=>True) (okp:=fun _=>True) rfl (fun _ hk=>hk) trivial (od_ (by first|(with_reducible assumption)|assumption)) (Nat.le_trans (Nat.mul_le_mul_right _ (od_ (by first|(with_reducible assumption)|assumption) : ji6.toNat≤281474976710656)) (by omega)) (Below.refl _ _) (Nat.le_refl _) ?_;intro v341 w12 ho13 hb hg_ hnew_;clear hg_ hnew_;(first|rw [← Ny340.out] at ho13|(simp only [Int.reduceToNat] at ho13;rw [← Ny340.out] at ho13));have n0_:=am_ (Kd.R_lower ho13 (below_size (by repeat (first|(with_reducible first|exact HB.out|apply bA_|apply bN_|apply bD_|refine bS_ ?_ GE337.out)|exact HB.out))));have n1_:=am_ (blk_below (g:=gb337) (o:=.cells (arrC .i64 t335) 83 (0,0)) (by (with_reducible repeat (first|apply kN_|apply kD_|apply kA_));exact BK337.out) hb);have n2_:=am_ (bT_ (by repeat (first|(with_reducible first|exact HB.out|apply bA_|apply bN_|apply bD_|refine bS_ ?_ GE337.out)|exact HB.out)) hb);clear BK337;clear HB;have HO342:=n0_;have BK337:=n1_;have HB:=n2_;clear n0_ n1_ n2_;clear hb ho13))
     go_loopg [8] k (fun kq v8 w'=>∃ (x7_1 : List Bool) (x8_1 : Int),v8 = .int .i8 x8_1 ∧ Aside0 (spec_l01Beside.l0 kq l0 a1 x7_1 x8_1 t335 = some r) ∧ Aside0 (kq≤k) ∧ Aside0 (Kd.R Kd.bool 4 w' w.heap.size (fun _=>True) v341 x7_1) ∧ Aside0 (w'.heap[gb337]? = some (.cells (arrC .i64 t335) 83 (0,0))) ∧ Aside0 (Below w.heap.size w w'))
     case atStart=>exact ⟨(y340),(0),(by first|rfl|(simp;done)|(simp [*];done)),H',⟨Nat.le_refl _⟩,⟨by (with_reducible repeat (first|apply Kd.R_alloc|apply Kd.R_drewN|apply Kd.R_drew));exact HO342.out⟩,⟨by (with_reducible repeat (first|apply kN_|apply kD_|apply kA_));exact BK337.out⟩,⟨by repeat (first|(with_reducible first|exact HB.out|apply bA_|apply bN_|apply bD_|refine bS_ ?_ GE337.out)|exact HB.out)⟩⟩
     case round =>
      clear H';(try clear p2);(try clear c3);(try clear p3);(try clear q3);(try clear hx3);(try clear qi3);(try clear c4);(try clear c4b0);(try clear c4b1);(try clear c5);(try clear c5b0);(try clear c5b1);(try clear c6);(try clear p6);(try clear c7);(try clear c7b0);(try clear c7b1);(try clear c8);(try clear c8b0);(try clear c8b1);(try clear hx338_0);(try clear hx338_1);(try clear hx338_2);(try clear hx339_0);(try clear hx339_1);(try clear hx339_2);(try clear p338);(try clear p339);(try clear q338);(try clear q339);obtain ⟨x7_1,x8_1,rfl,HA,HK1,HO_7,BK337,HB⟩:=hrel
      cases gk with
      | zero=>exact absurd HA.out (by simp [spec_l01Beside.l0])
      | succ k1 =>
       have H:=HA.out;clear HA;simp only [spec_l01Beside.l0] at H
       by_cases c14 : 0 < (l0.length : Int)
       ·
        rw [if_pos c14] at H;have c14b0 : decide (0 < (l0.length : Int)) = true:=decide_eq_true c14;have c14b1 : decide (0 < l0.length) = true:=decide_eq_true (by omega);clear c14
        by_cases c15 : x8_1 < ((rd_T30 l0 0).f1)
        ·
         rw [if_pos c15] at H;have c15b0 : decide (x8_1 < ((rd_T30 l0 0).f1)) = true:=decide_eq_true c15;clear c15;have H':=am_ H;clear H;have p343 : 0≤(0 : Int):=(by omega)
         have q343 : 0 < (l0.length : Int):=od_ (by first|(with_reducible assumption)|assumption);obtain ⟨ad343,A343_2,c343_2,e343,hx343_0,hx343_1,hx343_2,hl343_2,hi343_2⟩:=at_T30 HR0.out 0 p343 q343;obtain rfl : ad338 = ad343:=(by injection e343)
         have qi343 : (0 < l0.length) = True:=eq_true (by omega);(try rw [show ((0 : Int)).toNat = 0 from rfl] at hx343_0);(try rw [show 0 * 3 = 0 from rfl] at hx343_0);(try rw [Addr.add_zero'] at hx343_0);(try rw [show ((0 : Int)).toNat = 0 from rfl] at hx343_1);(try rw [show 0 * 3 = 0 from rfl] at hx343_1);(try rw [Addr.add_zero'] at hx343_1);(try rw [show ((0 : Int)).toNat = 0 from rfl] at hx343_2);(try rw [show 0 * 3 = 0 from rfl] at hx343_2);(try rw [Addr.add_zero'] at hx343_2);replace hx343_0:=(HB.out.cell (bl_ w _ hx343_0)).trans hx343_0;replace hx343_1:=(HB.out.cell (bl_ w _ hx343_1)).trans hx343_1;replace hx343_2:=(HB.out.cell (bl_ w _ hx343_2)).trans hx343_2;have HR343_2:=am_ hi343_2;have HC343_2:=am_ hl343_2;clear hi343_2 hl343_2;replace p343:=eq_true p343;replace q343:=eq_true q343;have p344 : 0≤(0 : Int):=(by omega)
         have q344 : 0 < (l0.length : Int):=od_ (by first|(with_reducible assumption)|assumption);obtain ⟨ad344,A344_2,c344_2,e344,hx344_0,hx344_1,hx344_2,hl344_2,hi344_2⟩:=at_T30 HR0.out 0 p344 q344;obtain rfl : ad338 = ad344:=(by injection e344)
         have qi344 : (0 < l0.length) = True:=eq_true (by omega);(try rw [show ((0 : Int)).toNat = 0 from rfl] at hx344_0);(try rw [show 0 * 3 = 0 from rfl] at hx344_0);(try rw [Addr.add_zero'] at hx344_0);(try rw [show ((0 : Int)).toNat = 0 from rfl] at hx344_1);(try rw [show 0 * 3 = 0 from rfl] at hx344_1);(try rw [Addr.add_zero'] at hx344_1);(try rw [show ((0 : Int)).toNat = 0 from rfl] at hx344_2);(try rw [show 0 * 3 = 0 from rfl] at hx344_2);(try rw [Addr.add_zero'] at hx344_2);replace hx344_0:=(HB.out.cell (bl_ w _ hx344_0)).trans hx344_0;replace hx344_1:=(HB.out.cell (bl_ w _ hx344_1)).trans hx344_1;replace hx344_2:=(HB.out.cell (bl_ w _ hx344_2)).trans hx344_2;have HR344_2:=am_ hi344_2;have HC344_2:=am_ hl344_2;clear hi344_2 hl344_2;replace p344:=eq_true p344;replace q344:=eq_true q344;have ea_:=Option.some.inj (hx343_2.symm.trans hx344_2)
         injection ea_ with ea_ en_ ec_
         subst ea_;subst ec_;clear en_
         go_wp2
         go_loopg [9] k1 (fun kq v9 w'=>∃ (x7_2 : List Bool) (x9_2 : Int),v9 = .int .i8 x9_2 ∧ Aside0 (spec_l01Beside.l1 kq l0 a1 x7_2 x8_1 x9_2 t335 = some r) ∧ Aside0 (kq≤k1) ∧ Aside0 (Kd.R Kd.bool 4 w' w.heap.size (fun _=>True) v341 x7_2) ∧ Aside0 (w'.heap[gb337]? = some (.cells (arrC .i64 t335) 83 (0,0))) ∧ Aside0 (Below w.heap.size w w'))
         case atStart=>exact ⟨(x7_1),(0),(by first|rfl|(simp;done)|(simp [*];done)),H',⟨Nat.le_refl _⟩,⟨by (with_reducible repeat (first|apply Kd.R_alloc|apply Kd.R_drewN|apply Kd.R_drew));exact HO_7.out⟩,⟨by (with_reducible repeat (first|apply kN_|apply kD_|apply kA_));exact BK337.out⟩,⟨by repeat (first|(with_reducible first|exact HB.out|apply bA_|apply bN_|apply bD_|refine bS_ ?_ GE337.out)|exact HB.out)⟩⟩
         case round =>
          clear H';(try clear c1);(try clear p2);(try clear c3);(try clear p3);(try clear q3);(try clear hx3);(try clear qi3);(try clear c4);(try clear c4b0);(try clear c4b1);(try clear c5);(try clear c5b0);(try clear c5b1);(try clear c6);(try clear p6);(try clear c7);(try clear c7b0);(try clear c7b1);(try clear c8);(try clear c8b0);(try clear c8b1);(try clear c14);(try clear c14b0);(try clear c14b1);(try clear c15);(try clear c15b0);(try clear hx338_0);(try clear hx338_1);(try clear hx338_2);(try clear hx339_0);(try clear hx339_1);(try clear hx339_2);(try clear hx343_0);(try clear hx343_1);(try clear hx343_2);(try clear hx344_0);(try clear hx344_1);(try clear hx344_2);(try clear p2);(try clear p3);(try clear p338);(try clear p339);(try clear p343);(try clear p344);(try clear p6);(try clear q3);(try clear q338);(try clear q339);(try clear q343);(try clear q344);obtain ⟨x7_2,x9_2,rfl,HA,HK2,HO_7,BK337,HB⟩:=hrel
          cases gk with
          | zero=>exact absurd HA.out (by simp [spec_l01Beside.l1])
          | succ k2 =>
           have H:=HA.out;clear HA;simp only [spec_l01Beside.l1] at H
           by_cases c16 : 0 < (l0.length : Int)
           ·
            rw [if_pos c16] at H;have c16b0 : decide (0 < (l0.length : Int)) = true:=decide_eq_true c16;have c16b1 : decide (0 < l0.length) = true:=decide_eq_true (by omega);clear c16
            by_cases c17 : x9_2 < ((rd_T30 l0 0).f0)
            ·
             rw [if_pos c17] at H;have c17b0 : decide (x9_2 < ((rd_T30 l0 0).f0)) = true:=decide_eq_true c17;clear c17;have HC18:=am_ H;clear H;have p345 : 0≤(0 : Int):=(by omega)
             have q345 : 0 < (l0.length : Int):=od_ (by first|(with_reducible assumption)|assumption);obtain ⟨ad345,A345_2,c345_2,e345,hx345_0,hx345_1,hx345_2,hl345_2,hi345_2⟩:=at_T30 HR0.out 0 p345 q345;obtain rfl : ad338 = ad345:=(by injection e345)
             have qi345 : (0 < l0.length) = True:=eq_true (by omega);(try rw [show ((0 : Int)).toNat = 0 from rfl] at hx345_0);(try rw [show 0 * 3 = 0 from rfl] at hx345_0);(try rw [Addr.add_zero'] at hx345_0);(try rw [show ((0 : Int)).toNat = 0 from rfl] at hx345_1);(try rw [show 0 * 3 = 0 from rfl] at hx345_1);(try rw [Addr.add_zero'] at hx345_1);(try rw [show ((0 : Int)).toNat = 0 from rfl] at hx345_2);(try rw [show 0 * 3 = 0 from rfl] at hx345_2);(try rw [Addr.add_zero'] at hx345_2);replace hx345_0:=(HB.out.cell (bl_ w _ hx345_0)).trans hx345_0;replace hx345_1:=(HB.out.cell (bl_ w _ hx345_1)).trans hx345_1;replace hx345_2:=(HB.out.cell (bl_ w _ hx345_2)).trans hx345_2;have HR345_2:=am_ hi345_2;have HC345_2:=am_ hl345_2;clear hi345_2 hl345_2;replace p345:=eq_true p345;replace q345:=eq_true q345;have p346 : 0≤(0 : Int):=(by omega)
             have q346 : 0 < (l0.length : Int):=od_ (by first|(with_reducible assumption)|assumption);obtain ⟨ad346,A346_2,c346_2,e346,hx346_0,hx346_1,hx346_2,hl346_2,hi346_2⟩:=at_T30 HR0.out 0 p346 q346;obtain rfl : ad338 = ad346:=(by injection e346)
             have qi346 : (0 < l0.length) = True:=eq_true (by omega);(try rw [show ((0 : Int)).toNat = 0 from rfl] at hx346_0);(try rw [show 0 * 3 = 0 from rfl] at hx346_0);(try rw [Addr.add_zero'] at hx346_0);(try rw [show ((0 : Int)).toNat = 0 from rfl] at hx346_1);(try rw [show 0 * 3 = 0 from rfl] at hx346_1);(try rw [Addr.add_zero'] at hx346_1);(try rw [show ((0 : Int)).toNat = 0 from rfl] at hx346_2);(try rw [show 0 * 3 = 0 from rfl] at hx346_2);(try rw [Addr.add_zero'] at hx346_2);replace hx346_0:=(HB.out.cell (bl_ w _ hx346_0)).trans hx346_0;replace hx346_1:=(HB.out.cell (bl_ w _ hx346_1)).trans hx346_1;replace hx346_2:=(HB.out.cell (bl_ w _ hx346_2)).trans hx346_2;have HR346_2:=am_ hi346_2;have HC346_2:=am_ hl346_2;clear hi346_2 hl346_2;replace p346:=eq_true p346;replace q346:=eq_true q346;have ea_:=Option.some.inj (hx345_2.symm.trans hx346_2)
             injection ea_ with ea_ en_ ec_
             subst ea_;subst ec_;clear en_
             go_upto_region 9 with (fail)
             go_cut [51] (fun v51 wc=>∃ (kq : Nat) (x51_17 : Bool),v51 = .bool x51_17 ∧ Aside0 (spec_l01Beside.j2 kq l0 a1 x7_2 x8_1 x9_2 x51_17 t335 = some r) ∧ Aside0 (kq≤k2) ∧ Aside0 (Kd.R Kd.bool 4 wc w.heap.size (fun _=>True) v341 x7_2) ∧ Aside0 (wc.heap[gb337]? = some (.cells (arrC .i64 t335) 83 (0,0))) ∧ Aside0 (Below w.heap.size w wc))
             case first =>
              have H:=HC18.out;clear HC18
              by_cases c19 : x9_2 > 0
              ·
               rw [if_pos c19] at H;have c19b0 : decide (0 < x9_2) = true:=decide_eq_true c19;clear c19
               (first|rw [c19b0]|(simp only [i64_w,i32_w];rw [c19b0])|skip)
               by_cases c20 : 0≤x8_1
               ·
                rw [if_pos c20] at H;have c20b0 : decide (0≤x8_1) = true:=decide_eq_true c20;clear c20
                by_cases c21 : x8_1 < 12
                ·
                 rw [if_pos c21] at H;have c21b0 : decide (x8_1 < 12) = true:=decide_eq_true c21;clear c21
                 by_cases c23 : 0≤x9_2
                 ·
                  rw [if_pos c23] at H;have c23b0 : decide (0≤x9_2) = true:=decide_eq_true c23;clear c23
                  by_cases c24 : x9_2 < 12
                  ·
                   rw [if_pos c24] at H;have c24b0 : decide (x9_2 < 12) = true:=decide_eq_true c24;clear c24
                   by_cases c26 : x8_1 * 12 + x9_2 < (t335.length : Int)
                   ·
                    rw [if_pos c26] at H;have c26b0:=eq_true c26;have c26b1 : decide (x8_1 * 12 + x9_2 < (t335.length : Int)) = true:=decide_eq_true c26;have H':=am_ H;clear H;have p22 : 0≤(x8_1 : Int):=od_ (by first|(with_reducible assumption)|assumption);have q22 : (x8_1 : Int) < (12 : Int):=od_ (by first|(with_reducible assumption)|assumption);replace p22:=eq_true p22;replace q22:=eq_true q22;have p25 : 0≤(x9_2 : Int):=od_ (by first|(with_reducible assumption)|assumption);have q25 : (x9_2 : Int) < (12 : Int):=od_ (by first|(with_reducible assumption)|assumption);replace p25:=eq_true p25;replace q25:=eq_true q25;have haz27 : wr.cell? ⟨gb337,x8_1.toNat * 12 + x9_2.toNat,none⟩ = some (.int .i64 (rd t335 (x8_1 * 12 + x9_2))):=arr_cell (by (with_reducible repeat (first|apply kN_|apply kD_|apply kA_));exact BK337.out) (x8_1 * 12 + x9_2) _ (by have h0_ : (0 : Int)≤x8_1:=od_ (by first|(with_reducible assumption)|assumption);have h1_ : (0 : Int)≤x9_2:=od_ (by first|(with_reducible assumption)|assumption);omega) (od_ (by first|(with_reducible assumption)|assumption))
                    go_wp2
                    go_meet
                    case rel=>exact ⟨_,(((rd t335 (x8_1 * 12 + x9_2)) == (wrap64 (a1 + 1)))),(by first|rfl|(simp;done)|(simp [*];done)),H',⟨by have:=HK1.out;have:=HK2.out;first|omega|exact Nat.le_refl _⟩,⟨by (with_reducible repeat (first|apply Kd.R_alloc|apply Kd.R_drewN|apply Kd.R_drew));exact HO_7.out⟩,⟨by (with_reducible repeat (first|apply kN_|apply kD_|apply kA_));exact BK337.out⟩,⟨by repeat (first|(with_reducible first|exact HB.out|apply bA_|apply bN_|apply bD_|refine bS_ ?_ GE337.out)|exact HB.out)⟩⟩
                   ·
                    rw [if_neg c26] at H;exact absurd H (by simp)
                  ·
                   rw [if_neg c24] at H;exact absurd H (by simp)
                 ·
                  rw [if_neg c23] at H;exact absurd H (by simp)
                ·
                 rw [if_neg c21] at H;exact absurd H (by simp)
               ·
                rw [if_neg c20] at H;exact absurd H (by simp)
              ·
               rw [if_neg c19] at H;have c19b0 : decide (0 < x9_2) = false:=decide_eq_false c19;clear c19
               (first|rw [c19b0]|(simp only [i64_w,i32_w];rw [c19b0])|skip)
               have H':=am_ H;clear H
               go_wp2
               go_meet
               case rel=>exact ⟨_,(false),(by first|rfl|(simp;done)|(simp [*];done)),H',⟨by have:=HK1.out;have:=HK2.out;first|omega|exact Nat.le_refl _⟩,⟨by (with_reducible repeat (first|apply Kd.R_alloc|apply Kd.R_drewN|apply Kd.R_drew));exact HO_7.out⟩,⟨by (with_reducible repeat (first|apply kN_|apply kD_|apply kA_));exact BK337.out⟩,⟨by repeat (first|(with_reducible first|exact HB.out|apply bA_|apply bN_|apply bD_|refine bS_ ?_ GE337.out)|exact HB.out)⟩⟩
             case rest =>
              clear HC18;(try clear c1);(try clear c2);(try clear p2);(try clear q2);(try clear c3);(try clear p3);(try clear q3);(try clear hx3);(try clear qi3);(try clear c4);(try clear c4b0);(try clear c4b1);(try clear c5);(try clear c5b0);(try clear c5b1);(try clear c6);(try clear p6);(try clear c7);(try clear c7b0);(try clear c7b1);(try clear c8);(try clear c8b0);(try clear c8b1);(try clear c14);(try clear c14b0);(try clear c14b1);(try clear c15);(try clear c15b0);(try clear c16);(try clear c16b0);(try clear c16b1);(try clear c17);(try clear c17b0);(try clear c19);(try clear c19b0);(try clear c20);(try clear c20b0);(try clear c21);(try clear c21b0);(try clear p22);(try clear q22);(try clear c23);(try clear c23b0);(try clear c24);(try clear c24b0);(try clear p25);(try clear q25);(try clear c26);(try clear c26b0);(try clear c26b1);(try clear hx338_0);(try clear hx338_1);(try clear hx338_2);(try clear hx339_0);(try clear hx339_1);(try clear hx339_2);(try clear hx343_0);(try clear hx343_1);(try clear hx343_2);(try clear hx344_0);(try clear hx344_1);(try clear hx344_2);(try clear hx345_0);(try clear hx345_1);(try clear hx345_2);(try clear hx346_0);(try clear hx346_1);(try clear hx346_2);(try clear p2);(try clear p22);(try clear p25);(try clear p3);(try clear p338);(try clear p339);(try clear p343);(try clear p344);(try clear p345);(try clear p346);(try clear p6);(try clear q22);(try clear q25);(try clear q3);(try clear q338);(try clear q339);(try clear q343);(try clear q344);(try clear q345);(try clear q346);obtain ⟨kq,x51_17,rfl,HA,HJ17,HO_7,BK337,HB⟩:=hcut
              cases kq with
              | zero=>exact absurd HA.out (by simp [spec_l01Beside.j2])
              | succ kj17 =>
               have H:=HA.out;clear HA;simp only [spec_l01Beside.j2] at H;have HC28:=am_ H;clear H
               go_upto_if 51 with (fail)
               go_cut [] (fun wc=>∃ (kq : Nat) (x7_27 : List Bool),Aside0 (spec_l01Beside.j3 kq l0 a1 x7_27 x8_1 x9_2 t335 = some r) ∧ Aside0 (kq≤kj17) ∧ Aside0 (Kd.R Kd.bool 4 wc w.heap.size (fun _=>True) v341 x7_27) ∧ Aside0 (wc.heap[gb337]? = some (.cells (arrC .i64 t335) 83 (0,0))) ∧ Aside0 (Below w.heap.size w wc))
               case first =>
                have H:=HC28.out;clear HC28
                by_cases c29 : x51_17 = true
                ·
                 subst c29;have H1 : (if 0≤x8_1 then (if x8_1 < 12 then (if 0≤(IntKind.i8.wrap (x9_2 - 1)) then (if (IntKind.i8.wrap (x9_2 - 1)) < 12 then (if x8_1 * 12 + (IntKind.i8.wrap (x9_2 - 1)) < (t335.length : Int) then (if 0≤(rd t335 (x8_1 * 12 + (IntKind.i8.wrap (x9_2 - 1)))) then (if (rd t335 (x8_1 * 12 + (IntKind.i8.wrap (x9_2 - 1)))) < (x7_2.length : Int) then (spec_l01Beside.j3 kj17 l0 a1 (x7_2.set ((rd t335 (x8_1 * 12 + (IntKind.i8.wrap (x9_2 - 1)))) : Int).toNat true) x8_1 x9_2 t335) else (none)) else (none)) else (none)) else (none)) else (none)) else (none)) else (none)) = some r:=by rw [if_pos rfl] at H;exact H
                 clear H;have H:=H1;clear H1
                 by_cases c30 : 0≤x8_1
                 ·
                  rw [if_pos c30] at H;have c30b0 : decide (0≤x8_1) = true:=decide_eq_true c30;clear c30
                  (first|rw [c30b0]|(simp only [i64_w,i32_w];rw [c30b0])|skip)
                  by_cases c31 : x8_1 < 12
                  ·
                   rw [if_pos c31] at H;have c31b0 : decide (x8_1 < 12) = true:=decide_eq_true c31;clear c31;obtain ⟨ji33,hji33⟩ : ∃ j_ : Int,(IntKind.i8.wrap (x9_2 - 1)) = j_:=⟨_,rfl⟩
                   replace H : (if 0≤(ji33) then (if (ji33) < 12 then (if x8_1 * 12 + (ji33) < (t335.length : Int) then (if 0≤(rd t335 (x8_1 * 12 + (ji33))) then (if (rd t335 (x8_1 * 12 + (ji33))) < (x7_2.length : Int) then (spec_l01Beside.j3 kj17 l0 a1 (x7_2.set ((rd t335 (x8_1 * 12 + (ji33))) : Int).toNat true) x8_1 x9_2 t335) else (none)) else (none)) else (none)) else (none)) else (none)) = some r:=by first|(rw [hji33] at H;exact H)|(simp only [hji33] at H ⊢;exact H)
                   by_cases c34 : 0≤(ji33)
                   ·
                    rw [if_pos c34] at H;have c34b0 : decide (0≤(ji33)) = true:=decide_eq_true c34;clear c34
                    by_cases c35 : (ji33) < 12
                    ·
                     rw [if_pos c35] at H;have c35b0 : decide ((ji33) < 12) = true:=decide_eq_true c35;clear c35
                     by_cases c37 : x8_1 * 12 + (ji33) < (t335.length : Int)
                     ·
                      rw [if_pos c37] at H;have c37b0:=eq_true c37;have c37b1 : decide (x8_1 * 12 + (ji33) < (t335.length : Int)) = true:=decide_eq_true c37;obtain ⟨ji38,hji38⟩ : ∃ j_ : Int,(rd t335 (x8_1 * 12 + (ji33))) = j_:=⟨_,rfl⟩
                      replace H : (if 0≤(ji38) then (if (ji38) < (x7_2.length : Int) then (spec_l01Beside.j3 kj17 l0 a1 (x7_2.set ((ji38) : Int).toNat true) x8_1 x9_2 t335) else (none)) else (none)) = some r:=by first|(rw [hji38] at H;exact H)|(simp only [hji38] at H ⊢;exact H)
                      by_cases c39 : 0≤(ji38)
                      ·
                       rw [if_pos c39] at H;have c39b0 : decide (0≤(ji38)) = true:=decide_eq_true c39;clear c39
                       by_cases c40 : (ji38) < (x7_2.length : Int)
                       ·
                        rw [if_pos c40] at H;have c40b0 : decide ((ji38) < (x7_2.length : Int)) = true:=decide_eq_true c40;clear c40;obtain ⟨y347,hy347⟩ : ∃ y_ : List Bool,y_ = (x7_2.set ((ji38) : Int).toNat true):=⟨_,rfl⟩
                        replace H : (spec_l01Beside.j3 kj17 l0 a1 y347 x8_1 x9_2 t335) = some r:=by first|(rw [hy347];with_reducible exact H)|(have H2_:=(Option.bind_some _ _).symm.trans H;rw [hy347];with_reducible exact H2_)|(have H2_:=(Option.bind_some _ _).symm.trans H;with_reducible exact H2_)|with_reducible exact H|(rw [hy347];exact H)|exact H
                        have Ny347:=am_ hy347;clear hy347;have H':=am_ H;clear H;have p32 : 0≤(x8_1 : Int):=od_ (by first|(with_reducible assumption)|assumption);have q32 : (x8_1 : Int) < (12 : Int):=od_ (by first|(with_reducible assumption)|assumption);replace p32:=eq_true p32;replace q32:=eq_true q32;have p36 : 0≤((ji33) : Int):=od_ (by first|(with_reducible assumption)|assumption);have q36 : ((ji33) : Int) < (12 : Int):=od_ (by first|(with_reducible assumption)|assumption);replace p36:=eq_true p36;replace q36:=eq_true q36;have haz42 : wc.cell? ⟨gb337,x8_1.toNat * 12 + (ji33).toNat,none⟩ = some (.int .i64 (rd t335 (x8_1 * 12 + (ji33)))):=arr_cell (by (with_reducible repeat (first|apply kN_|apply kD_|apply kA_));exact BK337.out) (x8_1 * 12 + (ji33)) _ (by have h0_ : (0 : Int)≤x8_1:=od_ (by first|(with_reducible assumption)|assumption);have h1_ : (0 : Int)≤(ji33):=od_ (by first|(with_reducible assumption)|assumption);omega) (od_ (by first|(with_reducible assumption)|assumption));have p41 : 0≤((ji38) : Int):=od_ (by first|(with_reducible assumption)|assumption);have q41 : ((ji38) : Int) < ((x7_2.length : Int) : Int):=od_ (by first|(with_reducible assumption)|assumption);obtain ⟨go41,co41,eo41,gb41,gl41,cl41,HG41⟩:=Kd.R_form HO_7.out (by omega)
                        (first|cases eo41|(injection eo41 with ea_ en_ ec_;(first|subst ea_|(injection ea_ with ea_;subst ea_));subst ec_;clear en_))
                        have GB41:=am_ gb41;have GG41:=am_ HG41;clear gb41 gl41 HG41;obtain ⟨hx41_0,hf41_0⟩:=Kd.R_celln false HO_7.out ((ji38) : Int) p41 q41;replace p41:=eq_true p41;replace q41:=eq_true q41;have HP43:=Kd.R_putg HO_7.out ((ji38) : Int) true
                        go_wp2_with (first|((with_reducible refine gate_store (t:=4) (p:=59) rfl ?_);refine store_event (t:=4) (p:=59) (v:=?vo_w44) (w1:=(wc.setCell ⟨go41,((ji38) : Int).toNat,none⟩ (.bool true))) ?hg ?ho ?hn ?hr ?_;(case ho=>rfl);(case hg=>rfl);(case hn=>rfl);(case hr=>first|(go_simp;done)|(go_simp;rfl));intro w44 hw;have hg : wc.grownBy w44 (some go41):=(by rw [hw];exact HP43.2);have hp_ : Kd.R Kd.bool 4 w44 w.heap.size (fun _=>True) (.slice (some ⟨go41,0,none⟩) x7_2.length co41) y347:=(by rw [hw,Ny347.out];exact HP43.1);clear HP43;have n0_:=am_ (hp_);have n1_:=am_ (blk_grown (g:=gb337) (o:=.cells (arrC .i64 t335) 83 (0,0)) (by (with_reducible repeat (first|apply kN_|apply kD_|apply kA_));exact BK337.out) hg (Kd.R_ne HO_7.out BK337.out (by decide)));have n2_:=am_ ((by rw [hw];exact bS_ (HB.out) GB41.out : Below w.heap.size w w44));clear HO_7;clear BK337;clear HB;have HO_7:=n0_;have BK337:=n1_;have HB:=n2_;clear n0_ n1_ n2_;clear hg hw hp_))
                        go_meet
                        case rel=>exact ⟨_,(y347),H',⟨by have:=HK1.out;have:=HK2.out;have:=HJ17.out;first|omega|exact Nat.le_refl _⟩,⟨by (with_reducible repeat (first|apply Kd.R_alloc|apply Kd.R_drewN|apply Kd.R_drew));exact HO_7.out⟩,⟨by (with_reducible repeat (first|apply kN_|apply kD_|apply kA_));exact BK337.out⟩,⟨by repeat (first|(with_reducible first|exact HB.out|apply bA_|apply bN_|apply bD_|refine bS_ ?_ GE337.out)|exact HB.out)⟩⟩
                       ·
                        rw [if_neg c40] at H;exact absurd H (by simp)
                      ·
                       rw [if_neg c39] at H;exact absurd H (by simp)
                     ·
                      rw [if_neg c37] at H;exact absurd H (by simp)
                    ·
                     rw [if_neg c35] at H;exact absurd H (by simp)
                   ·
                    rw [if_neg c34] at H;exact absurd H (by simp)
                  ·
                   rw [if_neg c31] at H;exact absurd H (by simp)
                 ·
                  rw [if_neg c30] at H;exact absurd H (by simp)
                ·
                 replace c29:=Bool.eq_false_iff.mpr c29;subst c29;have H1 : (spec_l01Beside.j3 kj17 l0 a1 x7_2 x8_1 x9_2 t335) = some r:=by rw [if_neg (show ¬ (false = true) by decide)] at H;exact H
                 clear H;have H:=H1;clear H1;have H':=am_ H;clear H
                 go_wp2
                 go_meet
                 case rel=>exact ⟨_,(x7_2),H',⟨by have:=HK1.out;have:=HK2.out;have:=HJ17.out;first|omega|exact Nat.le_refl _⟩,⟨by (with_reducible repeat (first|apply Kd.R_alloc|apply Kd.R_drewN|apply Kd.R_drew));exact HO_7.out⟩,⟨by (with_reducible repeat (first|apply kN_|apply kD_|apply kA_));exact BK337.out⟩,⟨by repeat (first|(with_reducible first|exact HB.out|apply bA_|apply bN_|apply bD_|refine bS_ ?_ GE337.out)|exact HB.out)⟩⟩
               case rest =>
                clear HC28;(try clear c1);(try clear c2);(try clear p2);(try clear q2);(try clear c3);(try clear p3);(try clear q3);(try clear hx3);(try clear qi3);(try clear c4);(try clear c4b0);(try clear c4b1);(try clear p4);(try clear q4);(try clear hx4);(try clear hf4);(try clear c5);(try clear c5b0);(try clear c5b1);(try clear c6);(try clear p6);(try clear c7);(try clear c7b0);(try clear c7b1);(try clear c8);(try clear c8b0);(try clear c8b1);(try clear c14);(try clear c14b0);(try clear c14b1);(try clear c15);(try clear c15b0);(try clear c16);(try clear c16b0);(try clear c16b1);(try clear c17);(try clear c17b0);(try clear c19);(try clear c19b0);(try clear c20);(try clear c20b0);(try clear c21);(try clear c21b0);(try clear p22);(try clear q22);(try clear c23);(try clear c23b0);(try clear c24);(try clear c24b0);(try clear p25);(try clear q25);(try clear c26);(try clear c26b0);(try clear c26b1);(try clear c29);(try clear c30);(try clear c30b0);(try clear c31);(try clear c31b0);(try clear p32);(try clear q32);(try clear c33);(try clear p33);(try clear q33);(try clear hx33);(try clear qi33);(try clear c34);(try clear c34b0);(try clear p34);(try clear q34);(try clear hx34);(try clear qi34);(try clear c35);(try clear c35b0);(try clear p36);(try clear q36);(try clear c37);(try clear c37b0);(try clear c37b1);(try clear c39);(try clear c39b0);(try clear c40);(try clear c40b0);(try clear p41);(try clear q41);(try clear hx41);(try clear hf41);(try clear hx338_0);(try clear hx338_1);(try clear hx338_2);(try clear hx339_0);(try clear hx339_1);(try clear hx339_2);(try clear hx343_0);(try clear hx343_1);(try clear hx343_2);(try clear hx344_0);(try clear hx344_1);(try clear hx344_2);(try clear hx345_0);(try clear hx345_1);(try clear hx345_2);(try clear hx346_0);(try clear hx346_1);(try clear hx346_2);(try clear hx41_0);(try clear p2);(try clear p22);(try clear p25);(try clear p3);(try clear p32);(try clear p338);(try clear p339);(try clear p343);(try clear p344);(try clear p345);(try clear p346);(try clear p36);(try clear p41);(try clear p6);(try clear q2);(try clear q22);(try clear q25);(try clear q3);(try clear q32);(try clear q338);(try clear q339);(try clear q343);(try clear q344);(try clear q345);(try clear q346);(try clear q36);(try clear q41);obtain ⟨kq,x7_27,HA,HJ27,HO_7,BK337,HB⟩:=hcut
                cases kq with
                | zero=>exact absurd HA.out (by simp [spec_l01Beside.j3])
                | succ kj27 =>
                 have H:=HA.out;clear HA;simp only [spec_l01Beside.j3] at H;have HC45:=am_ H;clear H
                 go_upto_region 11 with (fail)
                 go_cut [72] (fun v72 wc=>∃ (kq : Nat) (x72_44 : Bool),v72 = .bool x72_44 ∧ Aside0 (spec_l01Beside.j4 kq l0 a1 x7_27 x8_1 x9_2 x72_44 t335 = some r) ∧ Aside0 (kq≤kj27) ∧ Aside0 (Kd.R Kd.bool 4 wc w.heap.size (fun _=>True) v341 x7_27) ∧ Aside0 (wc.heap[gb337]? = some (.cells (arrC .i64 t335) 83 (0,0))) ∧ Aside0 (Below w.heap.size w wc))
                 case first =>
                  have H:=HC45.out;clear HC45
                  by_cases c46 : x9_2 > 0
                  ·
                   rw [if_pos c46] at H;have c46b0 : decide (0 < x9_2) = true:=decide_eq_true c46;clear c46
                   (first|rw [c46b0]|(simp only [i64_w,i32_w];rw [c46b0])|skip)
                   by_cases c47 : 0≤x8_1
                   ·
                    rw [if_pos c47] at H;have c47b0 : decide (0≤x8_1) = true:=decide_eq_true c47;clear c47
                    by_cases c48 : x8_1 < 12
                    ·
                     rw [if_pos c48] at H;have c48b0 : decide (x8_1 < 12) = true:=decide_eq_true c48;clear c48;obtain ⟨ji50,hji50⟩ : ∃ j_ : Int,(IntKind.i8.wrap (x9_2 - 1)) = j_:=⟨_,rfl⟩
                     replace H : (if 0≤(ji50) then (if (ji50) < 12 then (if x8_1 * 12 + (ji50) < (t335.length : Int) then (spec_l01Beside.j4 kj27 l0 a1 x7_27 x8_1 x9_2 ((rd t335 (x8_1 * 12 + (ji50))) == (wrap64 (a1 + 1))) t335) else (none)) else (none)) else (none)) = some r:=by first|(rw [hji50] at H;exact H)|(simp only [hji50] at H ⊢;exact H)
                     by_cases c51 : 0≤(ji50)
                     ·
                      rw [if_pos c51] at H;have c51b0 : decide (0≤(ji50)) = true:=decide_eq_true c51;clear c51
                      by_cases c52 : (ji50) < 12
                      ·
                       rw [if_pos c52] at H;have c52b0 : decide ((ji50) < 12) = true:=decide_eq_true c52;clear c52
                       by_cases c54 : x8_1 * 12 + (ji50) < (t335.length : Int)
                       ·
                        rw [if_pos c54] at H;have c54b0:=eq_true c54;have c54b1 : decide (x8_1 * 12 + (ji50) < (t335.length : Int)) = true:=decide_eq_true c54;have H':=am_ H;clear H;have p49 : 0≤(x8_1 : Int):=od_ (by first|(with_reducible assumption)|assumption);have q49 : (x8_1 : Int) < (12 : Int):=od_ (by first|(with_reducible assumption)|assumption);replace p49:=eq_true p49;replace q49:=eq_true q49;have p53 : 0≤((ji50) : Int):=od_ (by first|(with_reducible assumption)|assumption);have q53 : ((ji50) : Int) < (12 : Int):=od_ (by first|(with_reducible assumption)|assumption);replace p53:=eq_true p53;replace q53:=eq_true q53;have haz55 : wc.cell? ⟨gb337,x8_1.toNat * 12 + (ji50).toNat,none⟩ = some (.int .i64 (rd t335 (x8_1 * 12 + (ji50)))):=arr_cell (by (with_reducible repeat (first|apply kN_|apply kD_|apply kA_));exact BK337.out) (x8_1 * 12 + (ji50)) _ (by have h0_ : (0 : Int)≤x8_1:=od_ (by first|(with_reducible assumption)|assumption);have h1_ : (0 : Int)≤(ji50):=od_ (by first|(with_reducible assumption)|assumption);omega) (od_ (by first|(with_reducible assumption)|assumption))
                        go_wp2
                        go_meet
                        case rel=>exact ⟨_,(((rd t335 (x8_1 * 12 + (ji50))) == (wrap64 (a1 + 1)))),(by first|rfl|(simp;done)|(simp only [← hji50] <;> (first|rfl|simp))|(simp [*];done)),H',⟨by have:=HK1.out;have:=HK2.out;have:=HJ17.out;have:=HJ27.out;first|omega|exact Nat.le_refl _⟩,⟨by (with_reducible repeat (first|apply Kd.R_alloc|apply Kd.R_drewN|apply Kd.R_drew));exact HO_7.out⟩,⟨by (with_reducible repeat (first|apply kN_|apply kD_|apply kA_));exact BK337.out⟩,⟨by repeat (first|(with_reducible first|exact HB.out|apply bA_|apply bN_|apply bD_|refine bS_ ?_ GE337.out)|exact HB.out)⟩⟩
                       ·
                        rw [if_neg c54] at H;exact absurd H (by simp)
                      ·
                       rw [if_neg c52] at H;exact absurd H (by simp)
                     ·
                      rw [if_neg c51] at H;exact absurd H (by simp)
                    ·
                     rw [if_neg c48] at H;exact absurd H (by simp)
                   ·
                    rw [if_neg c47] at H;exact absurd H (by simp)
                  ·
                   rw [if_neg c46] at H;have c46b0 : decide (0 < x9_2) = false:=decide_eq_false c46;clear c46
                   (first|rw [c46b0]|(simp only [i64_w,i32_w];rw [c46b0])|skip)
                   have H':=am_ H;clear H
                   go_wp2
                   go_meet
                   case rel=>exact ⟨_,(false),(by first|rfl|(simp;done)|(simp [*];done)),H',⟨by have:=HK1.out;have:=HK2.out;have:=HJ17.out;have:=HJ27.out;first|omega|exact Nat.le_refl _⟩,⟨by (with_reducible repeat (first|apply Kd.R_alloc|apply Kd.R_drewN|apply Kd.R_drew));exact HO_7.out⟩,⟨by (with_reducible repeat (first|apply kN_|apply kD_|apply kA_));exact BK337.out⟩,⟨by repeat (first|(with_reducible first|exact HB.out|apply bA_|apply bN_|apply bD_|refine bS_ ?_ GE337.out)|exact HB.out)⟩⟩
                 case rest =>
                  clear HC45;(try clear c1);(try clear c2);(try clear p2);(try clear q2);(try clear c3);(try clear p3);(try clear q3);(try clear hx3);(try clear qi3);(try clear c4);(try clear c4b0);(try clear c4b1);(try clear p4);(try clear q4);(try clear hx4);(try clear hf4);(try clear c5);(try clear c5b0);(try clear c5b1);(try clear p5);(try clear q5);(try clear c6);(try clear p6);(try clear c7);(try clear c7b0);(try clear c7b1);(try clear c8);(try clear c8b0);(try clear c8b1);(try clear c14);(try clear c14b0);(try clear c14b1);(try clear c15);(try clear c15b0);(try clear c16);(try clear c16b0);(try clear c16b1);(try clear c17);(try clear c17b0);(try clear c19);(try clear c19b0);(try clear c20);(try clear c20b0);(try clear c21);(try clear c21b0);(try clear p22);(try clear q22);(try clear c23);(try clear c23b0);(try clear c24);(try clear c24b0);(try clear p25);(try clear q25);(try clear c26);(try clear c26b0);(try clear c26b1);(try clear c29);(try clear c30);(try clear c30b0);(try clear c31);(try clear c31b0);(try clear p32);(try clear q32);(try clear c33);(try clear p33);(try clear q33);(try clear hx33);(try clear qi33);(try clear c34);(try clear c34b0);(try clear p34);(try clear q34);(try clear hx34);(try clear qi34);(try clear c35);(try clear c35b0);(try clear p36);(try clear q36);(try clear c37);(try clear c37b0);(try clear c37b1);(try clear c39);(try clear c39b0);(try clear c40);(try clear c40b0);(try clear p41);(try clear q41);(try clear hx41);(try clear hf41);(try clear c46);(try clear c46b0);(try clear c47);(try clear c47b0);(try clear c48);(try clear c48b0);(try clear p49);(try clear q49);(try clear c51);(try clear c51b0);(try clear c52);(try clear c52b0);(try clear p53);(try clear q53);(try clear c54);(try clear c54b0);(try clear c54b1);(try clear hx338_0);(try clear hx338_1);(try clear hx338_2);(try clear hx339_0);(try clear hx339_1);(try clear hx339_2);(try clear hx343_0);(try clear hx343_1);(try clear hx343_2);(try clear hx344_0);(try clear hx344_1);(try clear hx344_2);(try clear hx345_0);(try clear hx345_1);(try clear hx345_2);(try clear hx346_0);(try clear hx346_1);(try clear hx346_2);(try clear hx41_0);(try clear p2);(try clear p22);(try clear p25);(try clear p3);(try clear p32);(try clear p33);(try clear p338);(try clear p339);(try clear p34);(try clear p343);(try clear p344);(try clear p345);(try clear p346);(try clear p36);(try clear p4);(try clear p41);(try clear p49);(try clear p53);(try clear p6);(try clear q2);(try clear q22);(try clear q25);(try clear q3);(try clear q32);(try clear q33);(try clear q338);(try clear q339);(try clear q34);(try clear q343);(try clear q344);(try clear q345);(try clear q346);(try clear q36);(try clear q4);(try clear q41);(try clear q49);(try clear q53);obtain ⟨kq,x72_44,rfl,HA,HJ44,HO_7,BK337,HB⟩:=hcut
                  cases kq with
                  | zero=>exact absurd HA.out (by simp [spec_l01Beside.j4])
                  | succ kj44 =>
                   have H:=HA.out;clear HA;simp only [spec_l01Beside.j4] at H;have HC56:=am_ H;clear H
                   go_upto_if 72 with (fail)
                   go_cut [] (fun wc=>∃ (kq : Nat) (x7_55 : List Bool),Aside0 (spec_l01Beside.j5 kq l0 a1 x7_55 x8_1 x9_2 t335 = some r) ∧ Aside0 (kq≤kj44) ∧ Aside0 (Kd.R Kd.bool 4 wc w.heap.size (fun _=>True) v341 x7_55) ∧ Aside0 (wc.heap[gb337]? = some (.cells (arrC .i64 t335) 83 (0,0))) ∧ Aside0 (Below w.heap.size w wc))
                   case first =>
                    have H:=HC56.out;clear HC56
                    by_cases c57 : x72_44 = true
                    ·
                     subst c57;have H1 : (if 0≤x8_1 then (if x8_1 < 12 then (if 0≤x9_2 then (if x9_2 < 12 then (if x8_1 * 12 + x9_2 < (t335.length : Int) then (if 0≤(rd t335 (x8_1 * 12 + x9_2)) then (if (rd t335 (x8_1 * 12 + x9_2)) < (x7_27.length : Int) then (spec_l01Beside.j5 kj44 l0 a1 (x7_27.set ((rd t335 (x8_1 * 12 + x9_2)) : Int).toNat true) x8_1 x9_2 t335) else (none)) else (none)) else (none)) else (none)) else (none)) else (none)) else (none)) = some r:=by rw [if_pos rfl] at H;exact H
                     clear H;have H:=H1;clear H1
                     by_cases c58 : 0≤x8_1
                     ·
                      rw [if_pos c58] at H;have c58b0 : decide (0≤x8_1) = true:=decide_eq_true c58;clear c58
                      (first|rw [c58b0]|(simp only [i64_w,i32_w];rw [c58b0])|skip)
                      by_cases c59 : x8_1 < 12
                      ·
                       rw [if_pos c59] at H;have c59b0 : decide (x8_1 < 12) = true:=decide_eq_true c59;clear c59
                       by_cases c61 : 0≤x9_2
                       ·
                        rw [if_pos c61] at H;have c61b0 : decide (0≤x9_2) = true:=decide_eq_true c61;clear c61
                        by_cases c62 : x9_2 < 12
                        ·
                         rw [if_pos c62] at H;have c62b0 : decide (x9_2 < 12) = true:=decide_eq_true c62;clear c62
                         by_cases c64 : x8_1 * 12 + x9_2 < (t335.length : Int)
                         ·
                          rw [if_pos c64] at H;have c64b0:=eq_true c64;have c64b1 : decide (x8_1 * 12 + x9_2 < (t335.length : Int)) = true:=decide_eq_true c64;obtain ⟨ji65,hji65⟩ : ∃ j_ : Int,(rd t335 (x8_1 * 12 + x9_2)) = j_:=⟨_,rfl⟩
                          replace H : (if 0≤(ji65) then (if (ji65) < (x7_27.length : Int) then (spec_l01Beside.j5 kj44 l0 a1 (x7_27.set ((ji65) : Int).toNat true) x8_1 x9_2 t335) else (none)) else (none)) = some r:=by first|(rw [hji65] at H;exact H)|(simp only [hji65] at H ⊢;exact H)
                          by_cases c66 : 0≤(ji65)
                          ·
                           rw [if_pos c66] at H;have c66b0 : decide (0≤(ji65)) = true:=decide_eq_true c66;clear c66
                           by_cases c67 : (ji65) < (x7_27.length : Int)
                           ·
                            rw [if_pos c67] at H;have c67b0 : decide ((ji65) < (x7_27.length : Int)) = true:=decide_eq_true c67;clear c67;obtain ⟨y348,hy348⟩ : ∃ y_ : List Bool,y_ = (x7_27.set ((ji65) : Int).toNat true):=⟨_,rfl⟩
                            replace H : (spec_l01Beside.j5 kj44 l0 a1 y348 x8_1 x9_2 t335) = some r:=by first|(rw [hy348];with_reducible exact H)|(have H2_:=(Option.bind_some _ _).symm.trans H;rw [hy348];with_reducible exact H2_)|(have H2_:=(Option.bind_some _ _).symm.trans H;with_reducible exact H2_)|with_reducible exact H|(rw [hy348];exact H)|exact H
                            have Ny348:=am_ hy348;clear hy348;have H':=am_ H;clear H;have p60 : 0≤(x8_1 : Int):=od_ (by first|(with_reducible assumption)|assumption);have q60 : (x8_1 : Int) < (12 : Int):=od_ (by first|(with_reducible assumption)|assumption);replace p60:=eq_true p60;replace q60:=eq_true q60;have p63 : 0≤(x9_2 : Int):=od_ (by first|(with_reducible assumption)|assumption);have q63 : (x9_2 : Int) < (12 : Int):=od_ (by first|(with_reducible assumption)|assumption);replace p63:=eq_true p63;replace q63:=eq_true q63;have haz69 : wc.cell? ⟨gb337,x8_1.toNat * 12 + x9_2.toNat,none⟩ = some (.int .i64 (rd t335 (x8_1 * 12 + x9_2))):=arr_cell (by (with_reducible repeat (first|apply kN_|apply kD_|apply kA_));exact BK337.out) (x8_1 * 12 + x9_2) _ (by have h0_ : (0 : Int)≤x8_1:=od_ (by first|(with_reducible assumption)|assumption);have h1_ : (0 : Int)≤x9_2:=od_ (by first|(with_reducible assumption)|assumption);omega) (od_ (by first|(with_reducible assumption)|assumption));have p68 : 0≤((ji65) : Int):=od_ (by first|(with_reducible assumption)|assumption);have q68 : ((ji65) : Int) < ((x7_27.length : Int) : Int):=od_ (by first|(with_reducible assumption)|assumption);obtain ⟨go68,co68,eo68,gb68,gl68,cl68,HG68⟩:=Kd.R_form HO_7.out (by omega)
                            (first|cases eo68|(injection eo68 with ea_ en_ ec_;(first|subst ea_|(injection ea_ with ea_;subst ea_));subst ec_;clear en_))
                            have GB68:=am_ gb68;have GG68:=am_ HG68;clear gb68 gl68 HG68;obtain ⟨hx68_0,hf68_0⟩:=Kd.R_celln false HO_7.out ((ji65) : Int) p68 q68;replace p68:=eq_true p68;replace q68:=eq_true q68;have HP70:=Kd.R_putg HO_7.out ((ji65) : Int) true
                            go_wp2_with (first|((with_reducible refine gate_store (t:=4) (p:=79) rfl ?_);refine store_event (t:=4) (p:=79) (v:=?vo_w71) (w1:=(wc.setCell ⟨go68,((ji65) : Int).toNat,none⟩ (.bool true))) ?hg ?ho ?hn ?hr ?_;(case ho=>rfl);(case hg=>rfl);(case hn=>rfl);(case hr=>first|(go_simp;done)|(go_simp;rfl));intro w71 hw;have hg : wc.grownBy w71 (some go68):=(by rw [hw];exact HP70.2);have hp_ : Kd.R Kd.bool 4 w71 w.heap.size (fun _=>True) (.slice (some ⟨go68,0,none⟩) x7_27.length co68) y348:=(by rw [hw,Ny348.out];exact HP70.1);clear HP70;have n0_:=am_ (hp_);have n1_:=am_ (blk_grown (g:=gb337) (o:=.cells (arrC .i64 t335) 83 (0,0)) (by (with_reducible repeat (first|apply kN_|apply kD_|apply kA_));exact BK337.out) hg (Kd.R_ne HO_7.out BK337.out (by decide)));have n2_:=am_ ((by rw [hw];exact bS_ (HB.out) GB68.out : Below w.heap.size w w71));clear HO_7;clear BK337;clear HB;have HO_7:=n0_;have BK337:=n1_;have HB:=n2_;clear n0_ n1_ n2_;clear hg hw hp_))
                            go_meet
                            case rel=>exact ⟨_,(y348),H',⟨by have:=HK1.out;have:=HK2.out;have:=HJ17.out;have:=HJ27.out;have:=HJ44.out;first|omega|exact Nat.le_refl _⟩,⟨by (with_reducible repeat (first|apply Kd.R_alloc|apply Kd.R_drewN|apply Kd.R_drew));exact HO_7.out⟩,⟨by (with_reducible repeat (first|apply kN_|apply kD_|apply kA_));exact BK337.out⟩,⟨by repeat (first|(with_reducible first|exact HB.out|apply bA_|apply bN_|apply bD_|refine bS_ ?_ GE337.out)|exact HB.out)⟩⟩
                           ·
                            rw [if_neg c67] at H;exact absurd H (by simp)
                          ·
                           rw [if_neg c66] at H;exact absurd H (by simp)
                         ·
                          rw [if_neg c64] at H;exact absurd H (by simp)
                        ·
                         rw [if_neg c62] at H;exact absurd H (by simp)
                       ·
                        rw [if_neg c61] at H;exact absurd H (by simp)
                      ·
                       rw [if_neg c59] at H;exact absurd H (by simp)
                     ·
                      rw [if_neg c58] at H;exact absurd H (by simp)
                    ·
                     replace c57:=Bool.eq_false_iff.mpr c57;subst c57;have H1 : (spec_l01Beside.j5 kj44 l0 a1 x7_27 x8_1 x9_2 t335) = some r:=by rw [if_neg (show ¬ (false = true) by decide)] at H;exact H
                     clear H;have H:=H1;clear H1;have H':=am_ H;clear H
                     go_wp2
                     go_meet
                     case rel=>exact ⟨_,(x7_27),H',⟨by have:=HK1.out;have:=HK2.out;have:=HJ17.out;have:=HJ27.out;have:=HJ44.out;first|omega|exact Nat.le_refl _⟩,⟨by (with_reducible repeat (first|apply Kd.R_alloc|apply Kd.R_drewN|apply Kd.R_drew));exact HO_7.out⟩,⟨by (with_reducible repeat (first|apply kN_|apply kD_|apply kA_));exact BK337.out⟩,⟨by repeat (first|(with_reducible first|exact HB.out|apply bA_|apply bN_|apply bD_|refine bS_ ?_ GE337.out)|exact HB.out)⟩⟩
                   case rest =>
                    clear HC56;(try clear c1);(try clear c2);(try clear p2);(try clear q2);(try clear c3);(try clear p3);(try clear q3);(try clear hx3);(try clear qi3);(try clear c4);(try clear c4b0);(try clear c4b1);(try clear p4);(try clear q4);(try clear hx4);(try clear hf4);(try clear c5);(try clear c5b0);(try clear c5b1);(try clear p5);(try clear q5);(try clear c6);(try clear p6);(try clear q6);(try clear hx6);(try clear hf6);(try clear c7);(try clear c7b0);(try clear c7b1);(try clear c8);(try clear c8b0);(try clear c8b1);(try clear c14);(try clear c14b0);(try clear c14b1);(try clear c15);(try clear c15b0);(try clear c16);(try clear c16b0);(try clear c16b1);(try clear c17);(try clear c17b0);(try clear c19);(try clear c19b0);(try clear c20);(try clear c20b0);(try clear c21);(try clear c21b0);(try clear p22);(try clear q22);(try clear c23);(try clear c23b0);(try clear c24);(try clear c24b0);(try clear p25);(try clear q25);(try clear c26);(try clear c26b0);(try clear c26b1);(try clear c29);(try clear c30);(try clear c30b0);(try clear c31);(try clear c31b0);(try clear p32);(try clear q32);(try clear c33);(try clear p33);(try clear q33);(try clear hx33);(try clear qi33);(try clear c34);(try clear c34b0);(try clear p34);(try clear q34);(try clear hx34);(try clear qi34);(try clear c35);(try clear c35b0);(try clear p36);(try clear q36);(try clear c37);(try clear c37b0);(try clear c37b1);(try clear c39);(try clear c39b0);(try clear c40);(try clear c40b0);(try clear p41);(try clear q41);(try clear hx41);(try clear hf41);(try clear c46);(try clear c46b0);(try clear c47);(try clear c47b0);(try clear c48);(try clear c48b0);(try clear p49);(try clear q49);(try clear c51);(try clear c51b0);(try clear c52);(try clear c52b0);(try clear p53);(try clear q53);(try clear c54);(try clear c54b0);(try clear c54b1);(try clear c57);(try clear c58);(try clear c58b0);(try clear c59);(try clear c59b0);(try clear p60);(try clear q60);(try clear c61);(try clear c61b0);(try clear c62);(try clear c62b0);(try clear p63);(try clear q63);(try clear c64);(try clear c64b0);(try clear c64b1);(try clear p64);(try clear c66);(try clear c66b0);(try clear c67);(try clear c67b0);(try clear p68);(try clear q68);(try clear hx68);(try clear hf68);(try clear hx338_0);(try clear hx338_1);(try clear hx338_2);(try clear hx339_0);(try clear hx339_1);(try clear hx339_2);(try clear hx343_0);(try clear hx343_1);(try clear hx343_2);(try clear hx344_0);(try clear hx344_1);(try clear hx344_2);(try clear hx345_0);(try clear hx345_1);(try clear hx345_2);(try clear hx346_0);(try clear hx346_1);(try clear hx346_2);(try clear hx41_0);(try clear hx68_0);(try clear p2);(try clear p22);(try clear p25);(try clear p3);(try clear p32);(try clear p33);(try clear p338);(try clear p339);(try clear p34);(try clear p343);(try clear p344);(try clear p345);(try clear p346);(try clear p36);(try clear p4);(try clear p41);(try clear p49);(try clear p5);(try clear p53);(try clear p6);(try clear p60);(try clear p63);(try clear p68);(try clear q2);(try clear q22);(try clear q25);(try clear q3);(try clear q32);(try clear q33);(try clear q338);(try clear q339);(try clear q34);(try clear q343);(try clear q344);(try clear q345);(try clear q346);(try clear q36);(try clear q4);(try clear q41);(try clear q49);(try clear q5);(try clear q53);(try clear q60);(try clear q63);(try clear q68);obtain ⟨kq,x7_55,HA,HJ55,HO_7,BK337,HB⟩:=hcut
                    cases kq with
                    | zero=>exact absurd HA.out (by simp [spec_l01Beside.j5])
                    | succ kj55 =>
                     have H:=HA.out;clear HA;simp only [spec_l01Beside.j5] at H;have HC72:=am_ H;clear H
                     go_upto_region 13 with (fail)
                     go_cut [91] (fun v91 wc=>∃ (kq : Nat) (x91_71 : Bool),v91 = .bool x91_71 ∧ Aside0 (spec_l01Beside.j6 kq l0 a1 x7_55 x8_1 x9_2 x91_71 t335 = some r) ∧ Aside0 (kq≤kj55) ∧ Aside0 (Kd.R Kd.bool 4 wc w.heap.size (fun _=>True) v341 x7_55) ∧ Aside0 (wc.heap[gb337]? = some (.cells (arrC .i64 t335) 83 (0,0))) ∧ Aside0 (Below w.heap.size w wc))
                     case first =>
                      have H:=HC72.out;clear HC72
                      by_cases c73 : x8_1 > 0
                      ·
                       rw [if_pos c73] at H;have c73b0 : decide (0 < x8_1) = true:=decide_eq_true c73;clear c73
                       (first|rw [c73b0]|(simp only [i64_w,i32_w];rw [c73b0])|skip)
                       by_cases c74 : 0≤x8_1
                       ·
                        rw [if_pos c74] at H;have c74b0 : decide (0≤x8_1) = true:=decide_eq_true c74;clear c74
                        by_cases c75 : x8_1 < 12
                        ·
                         rw [if_pos c75] at H;have c75b0 : decide (x8_1 < 12) = true:=decide_eq_true c75;clear c75
                         by_cases c77 : 0≤x9_2
                         ·
                          rw [if_pos c77] at H;have c77b0 : decide (0≤x9_2) = true:=decide_eq_true c77;clear c77
                          by_cases c78 : x9_2 < 12
                          ·
                           rw [if_pos c78] at H;have c78b0 : decide (x9_2 < 12) = true:=decide_eq_true c78;clear c78
                           by_cases c80 : x8_1 * 12 + x9_2 < (t335.length : Int)
                           ·
                            rw [if_pos c80] at H;have c80b0:=eq_true c80;have c80b1 : decide (x8_1 * 12 + x9_2 < (t335.length : Int)) = true:=decide_eq_true c80;have H':=am_ H;clear H;have p76 : 0≤(x8_1 : Int):=od_ (by first|(with_reducible assumption)|assumption);have q76 : (x8_1 : Int) < (12 : Int):=od_ (by first|(with_reducible assumption)|assumption);replace p76:=eq_true p76;replace q76:=eq_true q76;have p79 : 0≤(x9_2 : Int):=od_ (by first|(with_reducible assumption)|assumption);have q79 : (x9_2 : Int) < (12 : Int):=od_ (by first|(with_reducible assumption)|assumption);replace p79:=eq_true p79;replace q79:=eq_true q79;have haz81 : wc.cell? ⟨gb337,x8_1.toNat * 12 + x9_2.toNat,none⟩ = some (.int .i64 (rd t335 (x8_1 * 12 + x9_2))):=arr_cell (by (with_reducible repeat (first|apply kN_|apply kD_|apply kA_));exact BK337.out) (x8_1 * 12 + x9_2) _ (by have h0_ : (0 : Int)≤x8_1:=od_ (by first|(with_reducible assumption)|assumption);have h1_ : (0 : Int)≤x9_2:=od_ (by first|(with_reducible assumption)|assumption);omega) (od_ (by first|(with_reducible assumption)|assumption))
                            go_wp2
                            go_meet
                            case rel=>exact ⟨_,(((rd t335 (x8_1 * 12 + x9_2)) == (wrap64 (a1 + 1)))),(by first|rfl|(simp;done)|(simp [*];done)),H',⟨by have:=HK1.out;have:=HK2.out;have:=HJ17.out;have:=HJ27.out;have:=HJ44.out;have:=HJ55.out;first|omega|exact Nat.le_refl _⟩,⟨by (with_reducible repeat (first|apply Kd.R_alloc|apply Kd.R_drewN|apply Kd.R_drew));exact HO_7.out⟩,⟨by (with_reducible repeat (first|apply kN_|apply kD_|apply kA_));exact BK337.out⟩,⟨by repeat (first|(with_reducible first|exact HB.out|apply bA_|apply bN_|apply bD_|refine bS_ ?_ GE337.out)|exact HB.out)⟩⟩
                           ·
                            rw [if_neg c80] at H;exact absurd H (by simp)
                          ·
                           rw [if_neg c78] at H;exact absurd H (by simp)
                         ·
                          rw [if_neg c77] at H;exact absurd H (by simp)
                        ·
                         rw [if_neg c75] at H;exact absurd H (by simp)
                       ·
                        rw [if_neg c74] at H;exact absurd H (by simp)
                      ·
                       rw [if_neg c73] at H;have c73b0 : decide (0 < x8_1) = false:=decide_eq_false c73;clear c73
                       (first|rw [c73b0]|(simp only [i64_w,i32_w];rw [c73b0])|skip)
                       have H':=am_ H;clear H
                       go_wp2
                       go_meet
                       case rel=>exact ⟨_,(false),(by first|rfl|(simp;done)|(simp [*];done)),H',⟨by have:=HK1.out;have:=HK2.out;have:=HJ17.out;have:=HJ27.out;have:=HJ44.out;have:=HJ55.out;first|omega|exact Nat.le_refl _⟩,⟨by (with_reducible repeat (first|apply Kd.R_alloc|apply Kd.R_drewN|apply Kd.R_drew));exact HO_7.out⟩,⟨by (with_reducible repeat (first|apply kN_|apply kD_|apply kA_));exact BK337.out⟩,⟨by repeat (first|(with_reducible first|exact HB.out|apply bA_|apply bN_|apply bD_|refine bS_ ?_ GE337.out)|exact HB.out)⟩⟩
                     case rest =>
                      clear HC72;(try clear c1);(try clear c2);(try clear p2);(try clear q2);(try clear c3);(try clear p3);(try clear q3);(try clear hx3);(try clear qi3);(try clear c4);(try clear c4b0);(try clear c4b1);(try clear p4);(try clear q4);(try clear hx4);(try clear hf4);(try clear c5);(try clear c5b0);(try clear c5b1);(try clear p5);(try clear q5);(try clear c6);(try clear p6);(try clear q6);(try clear hx6);(try clear hf6);(try clear c7);(try clear c7b0);(try clear c7b1);(try clear p7);(try clear q7);(try clear c8);(try clear c8b0);(try clear c8b1);(try clear c14);(try clear c14b0);(try clear c14b1);(try clear c15);(try clear c15b0);(try clear c16);(try clear c16b0);(try clear c16b1);(try clear c17);(try clear c17b0);(try clear c19);(try clear c19b0);(try clear c20);(try clear c20b0);(try clear c21);(try clear c21b0);(try clear p22);(try clear q22);(try clear c23);(try clear c23b0);(try clear c24);(try clear c24b0);(try clear p25);(try clear q25);(try clear c26);(try clear c26b0);(try clear c26b1);(try clear c29);(try clear c30);(try clear c30b0);(try clear c31);(try clear c31b0);(try clear p32);(try clear q32);(try clear c33);(try clear p33);(try clear q33);(try clear hx33);(try clear qi33);(try clear c34);(try clear c34b0);(try clear p34);(try clear q34);(try clear hx34);(try clear qi34);(try clear c35);(try clear c35b0);(try clear p36);(try clear q36);(try clear c37);(try clear c37b0);(try clear c37b1);(try clear c39);(try clear c39b0);(try clear c40);(try clear c40b0);(try clear p41);(try clear q41);(try clear hx41);(try clear hf41);(try clear c46);(try clear c46b0);(try clear c47);(try clear c47b0);(try clear c48);(try clear c48b0);(try clear p49);(try clear q49);(try clear c51);(try clear c51b0);(try clear c52);(try clear c52b0);(try clear p53);(try clear q53);(try clear c54);(try clear c54b0);(try clear c54b1);(try clear c57);(try clear c58);(try clear c58b0);(try clear c59);(try clear c59b0);(try clear p60);(try clear q60);(try clear c61);(try clear c61b0);(try clear c62);(try clear c62b0);(try clear p63);(try clear q63);(try clear c64);(try clear c64b0);(try clear c64b1);(try clear p64);(try clear c66);(try clear c66b0);(try clear c67);(try clear c67b0);(try clear p68);(try clear q68);(try clear hx68);(try clear hf68);(try clear c73);(try clear c73b0);(try clear c74);(try clear c74b0);(try clear c75);(try clear c75b0);(try clear p76);(try clear q76);(try clear c77);(try clear c77b0);(try clear c78);(try clear c78b0);(try clear p79);(try clear q79);(try clear c80);(try clear c80b0);(try clear c80b1);(try clear hx338_0);(try clear hx338_1);(try clear hx338_2);(try clear hx339_0);(try clear hx339_1);(try clear hx339_2);(try clear hx343_0);(try clear hx343_1);(try clear hx343_2);(try clear hx344_0);(try clear hx344_1);(try clear hx344_2);(try clear hx345_0);(try clear hx345_1);(try clear hx345_2);(try clear hx346_0);(try clear hx346_1);(try clear hx346_2);(try clear hx41_0);(try clear hx68_0);(try clear p2);(try clear p22);(try clear p25);(try clear p3);(try clear p32);(try clear p33);(try clear p338);(try clear p339);(try clear p34);(try clear p343);(try clear p344);(try clear p345);(try clear p346);(try clear p36);(try clear p4);(try clear p41);(try clear p49);(try clear p5);(try clear p53);(try clear p6);(try clear p60);(try clear p63);(try clear p64);(try clear p68);(try clear p76);(try clear p79);(try clear q2);(try clear q22);(try clear q25);(try clear q3);(try clear q32);(try clear q33);(try clear q338);(try clear q339);(try clear q34);(try clear q343);(try clear q344);(try clear q345);(try clear q346);(try clear q36);(try clear q4);(try clear q41);(try clear q49);(try clear q5);(try clear q53);(try clear q6);(try clear q60);(try clear q63);(try clear q68);(try clear q76);(try clear q79)
                      obtain ⟨kq,x91_71,rfl,HA,HJ71,HO_7,BK337,HB⟩:=hcut
                      cases kq with
                      | zero=>exact absurd HA.out (by simp [spec_l01Beside.j6])
                      | succ kj71 =>
                       have H:=HA.out;clear HA;simp only [spec_l01Beside.j6] at H
                       by_cases c82 : x91_71 = true
                       ·
                        subst c82;have H1 : (if 0≤(IntKind.i8.wrap (x8_1 - 1)) then (if (IntKind.i8.wrap (x8_1 - 1)) < 12 then (if 0≤x9_2 then (if x9_2 < 12 then (if (IntKind.i8.wrap (x8_1 - 1)) * 12 + x9_2 < (t335.length : Int) then (if 0≤(rd t335 ((IntKind.i8.wrap (x8_1 - 1)) * 12 + x9_2)) then (if (rd t335 ((IntKind.i8.wrap (x8_1 - 1)) * 12 + x9_2)) < (x7_55.length : Int) then ((some (x7_55.set ((rd t335 ((IntKind.i8.wrap (x8_1 - 1)) * 12 + x9_2)) : Int).toNat true : List Bool)).bind fun y349=>(if x8_1 > 0 then (if (rd t335 ((IntKind.i8.wrap (x8_1 - 1)) * 12 + x9_2)) = (wrap64 (a1 + 1)) then (if 0≤x8_1 then (if x8_1 < 12 then (if x8_1 * 12 + x9_2 < (t335.length : Int) then (if 0≤(rd t335 (x8_1 * 12 + x9_2)) then (if (rd t335 (x8_1 * 12 + x9_2)) < (x7_55.length : Int) then (spec_l01Beside.l1 kj71 l0 a1 (y349.set ((rd t335 (x8_1 * 12 + x9_2)) : Int).toNat true) x8_1 (IntKind.i8.wrap (x9_2 + 1)) t335) else (none)) else (none)) else (none)) else (none)) else (none)) else (spec_l01Beside.l1 kj71 l0 a1 y349 x8_1 (IntKind.i8.wrap (x9_2 + 1)) t335)) else (spec_l01Beside.l1 kj71 l0 a1 y349 x8_1 (IntKind.i8.wrap (x9_2 + 1)) t335))) else (none)) else (none)) else (none)) else (none)) else (none)) else (none)) else (none)) = some r:=by rw [if_pos rfl] at H;exact H
                        clear H;have H:=H1;clear H1;obtain ⟨ji83,hji83⟩ : ∃ j_ : Int,(IntKind.i8.wrap (x8_1 - 1)) = j_:=⟨_,rfl⟩
                        replace H : (if 0≤(ji83) then (if (ji83) < 12 then (if 0≤x9_2 then (if x9_2 < 12 then (if (ji83) * 12 + x9_2 < (t335.length : Int) then (if 0≤(rd t335 ((ji83) * 12 + x9_2)) then (if (rd t335 ((ji83) * 12 + x9_2)) < (x7_55.length : Int) then ((some (x7_55.set ((rd t335 ((ji83) * 12 + x9_2)) : Int).toNat true : List Bool)).bind fun y349=>(if x8_1 > 0 then (if (rd t335 ((ji83) * 12 + x9_2)) = (wrap64 (a1 + 1)) then (if 0≤x8_1 then (if x8_1 < 12 then (if x8_1 * 12 + x9_2 < (t335.length : Int) then (if 0≤(rd t335 (x8_1 * 12 + x9_2)) then (if (rd t335 (x8_1 * 12 + x9_2)) < (x7_55.length : Int) then (spec_l01Beside.l1 kj71 l0 a1 (y349.set ((rd t335 (x8_1 * 12 + x9_2)) : Int).toNat true) x8_1 (IntKind.i8.wrap (x9_2 + 1)) t335) else (none)) else (none)) else (none)) else (none)) else (none)) else (spec_l01Beside.l1 kj71 l0 a1 y349 x8_1 (IntKind.i8.wrap (x9_2 + 1)) t335)) else (spec_l01Beside.l1 kj71 l0 a1 y349 x8_1 (IntKind.i8.wrap (x9_2 + 1)) t335))) else (none)) else (none)) else (none)) else (none)) else (none)) else (none)) else (none)) = some r:=by first|(rw [hji83] at H;exact H)|(simp only [hji83] at H ⊢;exact H)
                        by_cases c84 : 0≤(ji83)
                        ·
                         rw [if_pos c84] at H;have c84b0 : decide (0≤(ji83)) = true:=decide_eq_true c84;clear c84
                         by_cases c85 : (ji83) < 12
                         ·
                          rw [if_pos c85] at H;have c85b0 : decide ((ji83) < 12) = true:=decide_eq_true c85;clear c85
                          by_cases c87 : 0≤x9_2
                          ·
                           rw [if_pos c87] at H;have c87b0 : decide (0≤x9_2) = true:=decide_eq_true c87;clear c87
                           by_cases c88 : x9_2 < 12
                           ·
                            rw [if_pos c88] at H;have c88b0 : decide (x9_2 < 12) = true:=decide_eq_true c88;clear c88
                            by_cases c90 : (ji83) * 12 + x9_2 < (t335.length : Int)
                            ·
                             rw [if_pos c90] at H;have c90b0:=eq_true c90;have c90b1 : decide ((ji83) * 12 + x9_2 < (t335.length : Int)) = true:=decide_eq_true c90;obtain ⟨ji91,hji91⟩ : ∃ j_ : Int,(rd t335 ((ji83) * 12 + x9_2)) = j_:=⟨_,rfl⟩
                             replace H : (if 0≤(ji91) then (if (ji91) < (x7_55.length : Int) then ((some (x7_55.set ((ji91) : Int).toNat true : List Bool)).bind fun y349=>(if x8_1 > 0 then (if (ji91) = (wrap64 (a1 + 1)) then (if 0≤x8_1 then (if x8_1 < 12 then (if x8_1 * 12 + x9_2 < (t335.length : Int) then (if 0≤(rd t335 (x8_1 * 12 + x9_2)) then (if (rd t335 (x8_1 * 12 + x9_2)) < (x7_55.length : Int) then (spec_l01Beside.l1 kj71 l0 a1 (y349.set ((rd t335 (x8_1 * 12 + x9_2)) : Int).toNat true) x8_1 (IntKind.i8.wrap (x9_2 + 1)) t335) else (none)) else (none)) else (none)) else (none)) else (none)) else (spec_l01Beside.l1 kj71 l0 a1 y349 x8_1 (IntKind.i8.wrap (x9_2 + 1)) t335)) else (spec_l01Beside.l1 kj71 l0 a1 y349 x8_1 (IntKind.i8.wrap (x9_2 + 1)) t335))) else (none)) else (none)) = some r:=by first|(rw [hji91] at H;exact H)|(simp only [hji91] at H ⊢;exact H)
                             by_cases c92 : 0≤(ji91)
                             ·
                              rw [if_pos c92] at H;have c92b0 : decide (0≤(ji91)) = true:=decide_eq_true c92;clear c92
                              by_cases c93 : (ji91) < (x7_55.length : Int)
                              ·
                               rw [if_pos c93] at H;have c93b0 : decide ((ji91) < (x7_55.length : Int)) = true:=decide_eq_true c93;clear c93;obtain ⟨y349,hy349⟩ : ∃ y_ : List Bool,y_ = (x7_55.set ((ji91) : Int).toNat true):=⟨_,rfl⟩
                               replace H : (if x8_1 > 0 then (if (ji91) = (wrap64 (a1 + 1)) then (if 0≤x8_1 then (if x8_1 < 12 then (if x8_1 * 12 + x9_2 < (t335.length : Int) then (if 0≤(rd t335 (x8_1 * 12 + x9_2)) then (if (rd t335 (x8_1 * 12 + x9_2)) < (x7_55.length : Int) then (spec_l01Beside.l1 kj71 l0 a1 (y349.set ((rd t335 (x8_1 * 12 + x9_2)) : Int).toNat true) x8_1 (IntKind.i8.wrap (x9_2 + 1)) t335) else (none)) else (none)) else (none)) else (none)) else (none)) else (spec_l01Beside.l1 kj71 l0 a1 y349 x8_1 (IntKind.i8.wrap (x9_2 + 1)) t335)) else (spec_l01Beside.l1 kj71 l0 a1 y349 x8_1 (IntKind.i8.wrap (x9_2 + 1)) t335)) = some r:=by first|(rw [hy349];with_reducible exact H)|(have H2_:=(Option.bind_some _ _).symm.trans H;rw [hy349];with_reducible exact H2_)|(have H2_:=(Option.bind_some _ _).symm.trans H;with_reducible exact H2_)|with_reducible exact H|(rw [hy349];exact H)|exact H
                               have Ny349:=am_ hy349;clear hy349
                               by_cases c95 : x8_1 > 0
                               ·
                                rw [if_pos c95] at H;have c95b0 : decide (0 < x8_1) = true:=decide_eq_true c95;clear c95
                                by_cases c98 : (ji91) = (wrap64 (a1 + 1))
                                ·
                                 rw [if_pos c98] at H;have c98b0 : ((ji91) == (wrap64 (a1 + 1))) = true:=beq_iff_eq.mpr c98;have c98b1 : ((ji91) != (wrap64 (a1 + 1))) = false:=bne_eq_false_iff_eq.mpr c98;clear c98
                                 by_cases c99 : 0≤x8_1
                                 ·
                                  rw [if_pos c99] at H;have c99b0 : decide (0≤x8_1) = true:=decide_eq_true c99;clear c99
                                  by_cases c100 : x8_1 < 12
                                  ·
                                   rw [if_pos c100] at H;have c100b0 : decide (x8_1 < 12) = true:=decide_eq_true c100;clear c100
                                   by_cases c103 : x8_1 * 12 + x9_2 < (t335.length : Int)
                                   ·
                                    rw [if_pos c103] at H;have c103b0:=eq_true c103;have c103b1 : decide (x8_1 * 12 + x9_2 < (t335.length : Int)) = true:=decide_eq_true c103;obtain ⟨ji104,hji104⟩ : ∃ j_ : Int,(rd t335 (x8_1 * 12 + x9_2)) = j_:=⟨_,rfl⟩
                                    replace H : (if 0≤(ji104) then (if (ji104) < (x7_55.length : Int) then (spec_l01Beside.l1 kj71 l0 a1 (y349.set ((ji104) : Int).toNat true) x8_1 (IntKind.i8.wrap (x9_2 + 1)) t335) else (none)) else (none)) = some r:=by first|(rw [hji104] at H;exact H)|(simp only [hji104] at H ⊢;exact H)
                                    by_cases c105 : 0≤(ji104)
                                    ·
                                     rw [if_pos c105] at H;have c105b0 : decide (0≤(ji104)) = true:=decide_eq_true c105;clear c105
                                     by_cases c106 : (ji104) < (x7_55.length : Int)
                                     ·
                                      rw [if_pos c106] at H;have c106b0 : decide ((ji104) < (x7_55.length : Int)) = true:=decide_eq_true c106;clear c106;obtain ⟨y350,hy350⟩ : ∃ y_ : List Bool,y_ = (y349.set ((ji104) : Int).toNat true):=⟨_,rfl⟩
                                      replace H : (spec_l01Beside.l1 kj71 l0 a1 y350 x8_1 (IntKind.i8.wrap (x9_2 + 1)) t335) = some r:=by first|(rw [hy350];with_reducible exact H)|(have H2_:=(Option.bind_some _ _).symm.trans H;rw [hy350];with_reducible exact H2_)|(have H2_:=(Option.bind_some _ _).symm.trans H;with_reducible exact H2_)|with_reducible exact H|(rw [hy350];exact H)|exact H
                                      have Ny350:=am_ hy350;clear hy350;have H':=am_ H;clear H;have p86 : 0≤((ji83) : Int):=od_ (by first|(with_reducible assumption)|assumption);have q86 : ((ji83) : Int) < (12 : Int):=od_ (by first|(with_reducible assumption)|assumption);replace p86:=eq_true p86;replace q86:=eq_true q86;have p89 : 0≤(x9_2 : Int):=od_ (by first|(with_reducible assumption)|assumption);have q89 : (x9_2 : Int) < (12 : Int):=od_ (by first|(with_reducible assumption)|assumption);replace p89:=eq_true p89;replace q89:=eq_true q89;have haz108 : wc.cell? ⟨gb337,(ji83).toNat * 12 + x9_2.toNat,none⟩ = some (.int .i64 (rd t335 ((ji83) * 12 + x9_2))):=arr_cell (by (with_reducible repeat (first|apply kN_|apply kD_|apply kA_));exact BK337.out) ((ji83) * 12 + x9_2) _ (by have h0_ : (0 : Int)≤(ji83):=od_ (by first|(with_reducible assumption)|assumption);have h1_ : (0 : Int)≤x9_2:=od_ (by first|(with_reducible assumption)|assumption);omega) (od_ (by first|(with_reducible assumption)|assumption));have p94 : 0≤((ji91) : Int):=od_ (by first|(with_reducible assumption)|assumption);have q94 : ((ji91) : Int) < ((x7_55.length : Int) : Int):=od_ (by first|(with_reducible assumption)|assumption);obtain ⟨go94,co94,eo94,gb94,gl94,cl94,HG94⟩:=Kd.R_form HO_7.out (by omega)
                                      (first|cases eo94|(injection eo94 with ea_ en_ ec_;(first|subst ea_|(injection ea_ with ea_;subst ea_));subst ec_;clear en_))
                                      have GB94:=am_ gb94;have GG94:=am_ HG94;clear gb94 gl94 HG94;obtain ⟨hx94_0,hf94_0⟩:=Kd.R_celln false HO_7.out ((ji91) : Int) p94 q94;replace p94:=eq_true p94;replace q94:=eq_true q94;have HP109:=Kd.R_putg HO_7.out ((ji91) : Int) true
                                      go_wp2_with (first|((with_reducible refine gate_store (t:=4) (p:=99) rfl ?_);refine store_event (t:=4) (p:=99) (v:=?vo_w110) (w1:=(wc.setCell ⟨go94,((ji91) : Int).toNat,none⟩ (.bool true))) ?hg ?ho ?hn ?hr ?_;(case ho=>rfl);(case hg=>rfl);(case hn=>rfl);(case hr=>first|(go_simp;done)|(go_simp;rfl));intro w110 hw;have hg : wc.grownBy w110 (some go94):=(by rw [hw];exact HP109.2);have hp_ : Kd.R Kd.bool 4 w110 w.heap.size (fun _=>True) (.slice (some ⟨go94,0,none⟩) x7_55.length co94) y349:=(by rw [hw,Ny349.out];exact HP109.1);clear HP109;have n0_:=am_ (hp_);have n1_:=am_ (blk_grown (g:=gb337) (o:=.cells (arrC .i64 t335) 83 (0,0)) (by (with_reducible repeat (first|apply kN_|apply kD_|apply kA_));exact BK337.out) hg (Kd.R_ne HO_7.out BK337.out (by decide)));have n2_:=am_ ((by rw [hw];exact bS_ (HB.out) GB94.out : Below w.heap.size w w110));clear HO_7;clear BK337;clear HB;have HO_7:=n0_;have BK337:=n1_;have HB:=n2_;clear n0_ n1_ n2_;clear hg hw hp_;have p96 : 0≤((ji83) : Int):=od_ (by first|(with_reducible assumption)|assumption);have q96 : ((ji83) : Int) < (12 : Int):=od_ (by first|(with_reducible assumption)|assumption);replace p96:=eq_true p96;replace q96:=eq_true q96;have p97 : 0≤(x9_2 : Int):=od_ (by first|(with_reducible assumption)|assumption);have q97 : (x9_2 : Int) < (12 : Int):=od_ (by first|(with_reducible assumption)|assumption);replace p97:=eq_true p97;replace q97:=eq_true q97;have haz111 : w110.cell? ⟨gb337,(ji83).toNat * 12 + x9_2.toNat,none⟩ = some (.int .i64 (rd t335 ((ji83) * 12 + x9_2))):=arr_cell (by (with_reducible repeat (first|apply kN_|apply kD_|apply kA_));exact BK337.out) ((ji83) * 12 + x9_2) _ (by have h0_ : (0 : Int)≤(ji83):=od_ (by first|(with_reducible assumption)|assumption);have h1_ : (0 : Int)≤x9_2:=od_ (by first|(with_reducible assumption)|assumption);omega) (od_ (by first|(with_reducible assumption)|assumption));have p101 : 0≤(x8_1 : Int):=od_ (by first|(with_reducible assumption)|assumption);have q101 : (x8_1 : Int) < (12 : Int):=od_ (by first|(with_reducible assumption)|assumption);replace p101:=eq_true p101;replace q101:=eq_true q101;have p102 : 0≤(x9_2 : Int):=od_ (by first|(with_reducible assumption)|assumption);have q102 : (x9_2 : Int) < (12 : Int):=od_ (by first|(with_reducible assumption)|assumption);replace p102:=eq_true p102;replace q102:=eq_true q102;have haz112 : w110.cell? ⟨gb337,x8_1.toNat * 12 + x9_2.toNat,none⟩ = some (.int .i64 (rd t335 (x8_1 * 12 + x9_2))):=arr_cell (by (with_reducible repeat (first|apply kN_|apply kD_|apply kA_));exact BK337.out) (x8_1 * 12 + x9_2) _ (by have h0_ : (0 : Int)≤x8_1:=od_ (by first|(with_reducible assumption)|assumption);have h1_ : (0 : Int)≤x9_2:=od_ (by first|(with_reducible assumption)|assumption);omega) (od_ (by first|(with_reducible assumption)|assumption));have p107 : 0≤((ji104) : Int):=od_ (by first|(with_reducible assumption)|assumption);have q107 : ((ji104) : Int) < ((x7_55.length : Int) : Int):=od_ (by first|(with_reducible assumption)|assumption);obtain ⟨hx107_0,hf107_0⟩:=Kd.R_celln false HO_7.out ((ji104) : Int) p107 q107;replace p107:=eq_true p107;replace q107:=eq_true q107;obtain ⟨hy113_,hz113_⟩:=Kd.R_celln false HO_7.out ((ji104) : Int) (od_ (by first|(with_reducible assumption)|assumption)) (od_ (by first|(with_reducible assumption)|assumption));have HP113:=Kd.R_putg HO_7.out ((ji104) : Int) true)|((with_reducible refine gate_store (t:=4) (p:=119) rfl ?_);refine store_event (t:=4) (p:=119) (v:=?vo_w114) (w1:=(w110.setCell ⟨go94,((ji104) : Int).toNat,none⟩ (.bool true))) ?hg ?ho ?hn ?hr ?_;(case ho=>rfl);(case hg=>rfl);(case hn=>rfl);(case hr=>first|(go_simp;done)|(go_simp;rfl));intro w114 hw;have hg : w110.grownBy w114 (some go94):=(by rw [hw];exact HP113.2);have hp_ : Kd.R Kd.bool 4 w114 w.heap.size (fun _=>True) (.slice (some ⟨go94,0,none⟩) x7_55.length co94) y350:=(by rw [hw,Ny350.out];exact HP113.1);clear HP113;have n0_:=am_ (hp_);have n1_:=am_ (blk_grown (g:=gb337) (o:=.cells (arrC .i64 t335) 83 (0,0)) (by (with_reducible repeat (first|apply kN_|apply kD_|apply kA_));exact BK337.out) hg (Kd.R_ne HO_7.out BK337.out (by decide)));have n2_:=am_ ((by rw [hw];exact bS_ (HB.out) GB94.out : Below w.heap.size w w114));clear HO_7;clear BK337;clear HB;have HO_7:=n0_;have BK337:=n1_;have HB:=n2_;clear n0_ n1_ n2_;clear hg hw hp_))
                                      go_roundg kj71
                                      case measure=>have:=HK1.out;have:=HK2.out;have:=HJ17.out;have:=HJ27.out;have:=HJ44.out;have:=HJ55.out;have:=HJ71.out;omega
                                      case rel=>exact ⟨(y350),(IntKind.i8.wrap (x9_2 + 1)),(by first|rfl|(simp;done)|(simp [*];done)),H',⟨by have:=HK1.out;have:=HK2.out;have:=HJ17.out;have:=HJ27.out;have:=HJ44.out;have:=HJ55.out;have:=HJ71.out;omega⟩,⟨by (with_reducible repeat (first|apply Kd.R_alloc|apply Kd.R_drewN|apply Kd.R_drew));exact HO_7.out⟩,⟨by (with_reducible repeat (first|apply kN_|apply kD_|apply kA_));exact BK337.out⟩,⟨by repeat (first|(with_reducible first|exact HB.out|apply bA_|apply bN_|apply bD_|refine bS_ ?_ GE337.out)|exact HB.out)⟩⟩
                                     ·
                                      rw [if_neg c106] at H;exact absurd H (by simp)
                                    ·
                                     rw [if_neg c105] at H;exact absurd H (by simp)
                                   ·
                                    rw [if_neg c103] at H;exact absurd H (by simp)
                                  ·
                                   rw [if_neg c100] at H;exact absurd H (by simp)
                                 ·
                                  rw [if_neg c99] at H;exact absurd H (by simp)
                                ·
                                 rw [if_neg c98] at H;have c98b0 : ((ji91) == (wrap64 (a1 + 1))) = false:=beq_eq_false_iff_ne.mpr c98;have c98b1 : ((ji91) != (wrap64 (a1 + 1))) = true:=bne_iff_ne.mpr c98;have H':=am_ H;clear H;have p86 : 0≤((ji83) : Int):=od_ (by first|(with_reducible assumption)|assumption);have q86 : ((ji83) : Int) < (12 : Int):=od_ (by first|(with_reducible assumption)|assumption);replace p86:=eq_true p86;replace q86:=eq_true q86;have p89 : 0≤(x9_2 : Int):=od_ (by first|(with_reducible assumption)|assumption);have q89 : (x9_2 : Int) < (12 : Int):=od_ (by first|(with_reducible assumption)|assumption);replace p89:=eq_true p89;replace q89:=eq_true q89;have haz115 : wc.cell? ⟨gb337,(ji83).toNat * 12 + x9_2.toNat,none⟩ = some (.int .i64 (rd t335 ((ji83) * 12 + x9_2))):=arr_cell (by (with_reducible repeat (first|apply kN_|apply kD_|apply kA_));exact BK337.out) ((ji83) * 12 + x9_2) _ (by have h0_ : (0 : Int)≤(ji83):=od_ (by first|(with_reducible assumption)|assumption);have h1_ : (0 : Int)≤x9_2:=od_ (by first|(with_reducible assumption)|assumption);omega) (od_ (by first|(with_reducible assumption)|assumption));have p94 : 0≤((ji91) : Int):=od_ (by first|(with_reducible assumption)|assumption);have q94 : ((ji91) : Int) < ((x7_55.length : Int) : Int):=od_ (by first|(with_reducible assumption)|assumption);obtain ⟨go94,co94,eo94,gb94,gl94,cl94,HG94⟩:=Kd.R_form HO_7.out (by omega)
                                 (first|cases eo94|(injection eo94 with ea_ en_ ec_;(first|subst ea_|(injection ea_ with ea_;subst ea_));subst ec_;clear en_))
                                 have GB94:=am_ gb94;have GG94:=am_ HG94;clear gb94 gl94 HG94;obtain ⟨hx94_0,hf94_0⟩:=Kd.R_celln false HO_7.out ((ji91) : Int) p94 q94;replace p94:=eq_true p94;replace q94:=eq_true q94;have HP116:=Kd.R_putg HO_7.out ((ji91) : Int) true
                                 go_wp2_with (first|((with_reducible refine gate_store (t:=4) (p:=99) rfl ?_);refine store_event (t:=4) (p:=99) (v:=?vo_w117) (w1:=(wc.setCell ⟨go94,((ji91) : Int).toNat,none⟩ (.bool true))) ?hg ?ho ?hn ?hr ?_;(case ho=>rfl);(case hg=>rfl);(case hn=>rfl);(case hr=>first|(go_simp;done)|(go_simp;rfl));intro w117 hw;have hg : wc.grownBy w117 (some go94):=(by rw [hw];exact HP116.2);have hp_ : Kd.R Kd.bool 4 w117 w.heap.size (fun _=>True) (.slice (some ⟨go94,0,none⟩) x7_55.length co94) y349:=(by rw [hw,Ny349.out];exact HP116.1);clear HP116;have n0_:=am_ (hp_);have n1_:=am_ (blk_grown (g:=gb337) (o:=.cells (arrC .i64 t335) 83 (0,0)) (by (with_reducible repeat (first|apply kN_|apply kD_|apply kA_));exact BK337.out) hg (Kd.R_ne HO_7.out BK337.out (by decide)));have n2_:=am_ ((by rw [hw];exact bS_ (HB.out) GB94.out : Below w.heap.size w w117));clear HO_7;clear BK337;clear HB;have HO_7:=n0_;have BK337:=n1_;have HB:=n2_;clear n0_ n1_ n2_;clear hg hw hp_;have p96 : 0≤((ji83) : Int):=od_ (by first|(with_reducible assumption)|assumption);have q96 : ((ji83) : Int) < (12 : Int):=od_ (by first|(with_reducible assumption)|assumption);replace p96:=eq_true p96;replace q96:=eq_true q96;have p97 : 0≤(x9_2 : Int):=od_ (by first|(with_reducible assumption)|assumption);have q97 : (x9_2 : Int) < (12 : Int):=od_ (by first|(with_reducible assumption)|assumption);replace p97:=eq_true p97;replace q97:=eq_true q97;have haz118 : w117.cell? ⟨gb337,(ji83).toNat * 12 + x9_2.toNat,none⟩ = some (.int .i64 (rd t335 ((ji83) * 12 + x9_2))):=arr_cell (by (with_reducible repeat (first|apply kN_|apply kD_|apply kA_));exact BK337.out) ((ji83) * 12 + x9_2) _ (by have h0_ : (0 : Int)≤(ji83):=od_ (by first|(with_reducible assumption)|assumption);have h1_ : (0 : Int)≤x9_2:=od_ (by first|(with_reducible assumption)|assumption);omega) (od_ (by first|(with_reducible assumption)|assumption))))
                                 go_roundg kj71
                                 case measure=>have:=HK1.out;have:=HK2.out;have:=HJ17.out;have:=HJ27.out;have:=HJ44.out;have:=HJ55.out;have:=HJ71.out;omega
                                 case rel=>exact ⟨(y349),(IntKind.i8.wrap (x9_2 + 1)),(by first|rfl|(simp;done)|(simp [*];done)),H',⟨by have:=HK1.out;have:=HK2.out;have:=HJ17.out;have:=HJ27.out;have:=HJ44.out;have:=HJ55.out;have:=HJ71.out;omega⟩,⟨by (with_reducible repeat (first|apply Kd.R_alloc|apply Kd.R_drewN|apply Kd.R_drew));exact HO_7.out⟩,⟨by (with_reducible repeat (first|apply kN_|apply kD_|apply kA_));exact BK337.out⟩,⟨by repeat (first|(with_reducible first|exact HB.out|apply bA_|apply bN_|apply bD_|refine bS_ ?_ GE337.out)|exact HB.out)⟩⟩
                               ·
                                rw [if_neg c95] at H;have c95b0 : decide (0 < x8_1) = false:=decide_eq_false c95;clear c95;have H':=am_ H;clear H;have p86 : 0≤((ji83) : Int):=od_ (by first|(with_reducible assumption)|assumption);have q86 : ((ji83) : Int) < (12 : Int):=od_ (by first|(with_reducible assumption)|assumption);replace p86:=eq_true p86;replace q86:=eq_true q86;have p89 : 0≤(x9_2 : Int):=od_ (by first|(with_reducible assumption)|assumption);have q89 : (x9_2 : Int) < (12 : Int):=od_ (by first|(with_reducible assumption)|assumption);replace p89:=eq_true p89;replace q89:=eq_true q89;have haz119 : wc.cell? ⟨gb337,(ji83).toNat * 12 + x9_2.toNat,none⟩ = some (.int .i64 (rd t335 ((ji83) * 12 + x9_2))):=arr_cell (by (with_reducible repeat (first|apply kN_|apply kD_|apply kA_));exact BK337.out) ((ji83) * 12 + x9_2) _ (by have h0_ : (0 : Int)≤(ji83):=od_ (by first|(with_reducible assumption)|assumption);have h1_ : (0 : Int)≤x9_2:=od_ (by first|(with_reducible assumption)|assumption);omega) (od_ (by first|(with_reducible assumption)|assumption));have p94 : 0≤((ji91) : Int):=od_ (by first|(with_reducible assumption)|assumption);have q94 : ((ji91) : Int) < ((x7_55.length : Int) : Int):=od_ (by first|(with_reducible assumption)|assumption);obtain ⟨go94,co94,eo94,gb94,gl94,cl94,HG94⟩:=Kd.R_form HO_7.out (by omega)
                                (first|cases eo94|(injection eo94 with ea_ en_ ec_;(first|subst ea_|(injection ea_ with ea_;subst ea_));subst ec_;clear en_))
                                have GB94:=am_ gb94;have GG94:=am_ HG94;clear gb94 gl94 HG94;obtain ⟨hx94_0,hf94_0⟩:=Kd.R_celln false HO_7.out ((ji91) : Int) p94 q94;replace p94:=eq_true p94;replace q94:=eq_true q94;have HP120:=Kd.R_putg HO_7.out ((ji91) : Int) true
                                go_wp2_with (first|((with_reducible refine gate_store (t:=4) (p:=99) rfl ?_);refine store_event (t:=4) (p:=99) (v:=?vo_w121) (w1:=(wc.setCell ⟨go94,((ji91) : Int).toNat,none⟩ (.bool true))) ?hg ?ho ?hn ?hr ?_;(case ho=>rfl);(case hg=>rfl);(case hn=>rfl);(case hr=>first|(go_simp;done)|(go_simp;rfl));intro w121 hw;have hg : wc.grownBy w121 (some go94):=(by rw [hw];exact HP120.2);have hp_ : Kd.R Kd.bool 4 w121 w.heap.size (fun _=>True) (.slice (some ⟨go94,0,none⟩) x7_55.length co94) y349:=(by rw [hw,Ny349.out];exact HP120.1);clear HP120;have n0_:=am_ (hp_);have n1_:=am_ (blk_grown (g:=gb337) (o:=.cells (arrC .i64 t335) 83 (0,0)) (by (with_reducible repeat (first|apply kN_|apply kD_|apply kA_));exact BK337.out) hg (Kd.R_ne HO_7.out BK337.out (by decide)));have n2_:=am_ ((by rw [hw];exact bS_ (HB.out) GB94.out : Below w.heap.size w w121));clear HO_7;clear BK337;clear HB;have HO_7:=n0_;have BK337:=n1_;have HB:=n2_;clear n0_ n1_ n2_;clear hg hw hp_))
                                go_roundg kj71
                                case measure=>have:=HK1.out;have:=HK2.out;have:=HJ17.out;have:=HJ27.out;have:=HJ44.out;have:=HJ55.out;have:=HJ71.out;omega
                                case rel=>exact ⟨(y349),(IntKind.i8.wrap (x9_2 + 1)),(by first|rfl|(simp;done)|(simp [*];done)),H',⟨by have:=HK1.out;have:=HK2.out;have:=HJ17.out;have:=HJ27.out;have:=HJ44.out;have:=HJ55.out;have:=HJ71.out;omega⟩,⟨by (with_reducible repeat (first|apply Kd.R_alloc|apply Kd.R_drewN|apply Kd.R_drew));exact HO_7.out⟩,⟨by (with_reducible repeat (first|apply kN_|apply kD_|apply kA_));exact BK337.out⟩,⟨by repeat (first|(with_reducible first|exact HB.out|apply bA_|apply bN_|apply bD_|refine bS_ ?_ GE337.out)|exact HB.out)⟩⟩
                              ·
                               rw [if_neg c93] at H;exact absurd H (by simp)
                             ·
                              rw [if_neg c92] at H;exact absurd H (by simp)
                            ·
                             rw [if_neg c90] at H;exact absurd H (by simp)
                           ·
                            rw [if_neg c88] at H;exact absurd H (by simp)
                          ·
                           rw [if_neg c87] at H;exact absurd H (by simp)
                         ·
                          rw [if_neg c85] at H;exact absurd H (by simp)
                        ·
                         rw [if_neg c84] at H;exact absurd H (by simp)
                       ·
                        replace c82:=Bool.eq_false_iff.mpr c82;subst c82;have H1 : (if x8_1 > 0 then (if 0≤(IntKind.i8.wrap (x8_1 - 1)) then (if (IntKind.i8.wrap (x8_1 - 1)) < 12 then (if 0≤x9_2 then (if x9_2 < 12 then (if (IntKind.i8.wrap (x8_1 - 1)) * 12 + x9_2 < (t335.length : Int) then (if (rd t335 ((IntKind.i8.wrap (x8_1 - 1)) * 12 + x9_2)) = (wrap64 (a1 + 1)) then (if 0≤x8_1 then (if x8_1 < 12 then (if x8_1 * 12 + x9_2 < (t335.length : Int) then (if 0≤(rd t335 (x8_1 * 12 + x9_2)) then (if (rd t335 (x8_1 * 12 + x9_2)) < (x7_55.length : Int) then (spec_l01Beside.l1 kj71 l0 a1 (x7_55.set ((rd t335 (x8_1 * 12 + x9_2)) : Int).toNat true) x8_1 (IntKind.i8.wrap (x9_2 + 1)) t335) else (none)) else (none)) else (none)) else (none)) else (none)) else (spec_l01Beside.l1 kj71 l0 a1 x7_55 x8_1 (IntKind.i8.wrap (x9_2 + 1)) t335)) else (none)) else (none)) else (none)) else (none)) else (none)) else (spec_l01Beside.l1 kj71 l0 a1 x7_55 x8_1 (IntKind.i8.wrap (x9_2 + 1)) t335)) = some r:=by rw [if_neg (show ¬ (false = true) by decide)] at H;exact H
                        clear H;have H:=H1;clear H1
                        by_cases c122 : x8_1 > 0
                        ·
                         rw [if_pos c122] at H;have c122b0 : decide (0 < x8_1) = true:=decide_eq_true c122;clear c122;obtain ⟨ji123,hji123⟩ : ∃ j_ : Int,(IntKind.i8.wrap (x8_1 - 1)) = j_:=⟨_,rfl⟩
                         replace H : (if 0≤(ji123) then (if (ji123) < 12 then (if 0≤x9_2 then (if x9_2 < 12 then (if (ji123) * 12 + x9_2 < (t335.length : Int) then (if (rd t335 ((ji123) * 12 + x9_2)) = (wrap64 (a1 + 1)) then (if 0≤x8_1 then (if x8_1 < 12 then (if x8_1 * 12 + x9_2 < (t335.length : Int) then (if 0≤(rd t335 (x8_1 * 12 + x9_2)) then (if (rd t335 (x8_1 * 12 + x9_2)) < (x7_55.length : Int) then (spec_l01Beside.l1 kj71 l0 a1 (x7_55.set ((rd t335 (x8_1 * 12 + x9_2)) : Int).toNat true) x8_1 (IntKind.i8.wrap (x9_2 + 1)) t335) else (none)) else (none)) else (none)) else (none)) else (none)) else (spec_l01Beside.l1 kj71 l0 a1 x7_55 x8_1 (IntKind.i8.wrap (x9_2 + 1)) t335)) else (none)) else (none)) else (none)) else (none)) else (none)) = some r:=by first|(rw [hji123] at H;exact H)|(simp only [hji123] at H ⊢;exact H)
                         by_cases c124 : 0≤(ji123)
                         ·
                          rw [if_pos c124] at H;have c124b0 : decide (0≤(ji123)) = true:=decide_eq_true c124;clear c124
                          by_cases c125 : (ji123) < 12
                          ·
                           rw [if_pos c125] at H;have c125b0 : decide ((ji123) < 12) = true:=decide_eq_true c125;clear c125
                           by_cases c127 : 0≤x9_2
                           ·
                            rw [if_pos c127] at H;have c127b0 : decide (0≤x9_2) = true:=decide_eq_true c127;clear c127
                            by_cases c128 : x9_2 < 12
                            ·
                             rw [if_pos c128] at H;have c128b0 : decide (x9_2 < 12) = true:=decide_eq_true c128;clear c128
                             by_cases c130 : (ji123) * 12 + x9_2 < (t335.length : Int)
                             ·
                              rw [if_pos c130] at H;have c130b0:=eq_true c130;have c130b1 : decide ((ji123) * 12 + x9_2 < (t335.length : Int)) = true:=decide_eq_true c130
                              by_cases c131 : (rd t335 ((ji123) * 12 + x9_2)) = (wrap64 (a1 + 1))
                              ·
                               rw [if_pos c131] at H;have c131b0 : ((rd t335 ((ji123) * 12 + x9_2)) == (wrap64 (a1 + 1))) = true:=beq_iff_eq.mpr c131;have c131b1 : ((rd t335 ((ji123) * 12 + x9_2)) != (wrap64 (a1 + 1))) = false:=bne_eq_false_iff_eq.mpr c131;clear c131
                               by_cases c132 : 0≤x8_1
                               ·
                                rw [if_pos c132] at H;have c132b0 : decide (0≤x8_1) = true:=decide_eq_true c132;clear c132
                                by_cases c133 : x8_1 < 12
                                ·
                                 rw [if_pos c133] at H;have c133b0 : decide (x8_1 < 12) = true:=decide_eq_true c133;clear c133
                                 by_cases c136 : x8_1 * 12 + x9_2 < (t335.length : Int)
                                 ·
                                  rw [if_pos c136] at H;have c136b0:=eq_true c136;have c136b1 : decide (x8_1 * 12 + x9_2 < (t335.length : Int)) = true:=decide_eq_true c136;obtain ⟨ji137,hji137⟩ : ∃ j_ : Int,(rd t335 (x8_1 * 12 + x9_2)) = j_:=⟨_,rfl⟩
                                  replace H : (if 0≤(ji137) then (if (ji137) < (x7_55.length : Int) then (spec_l01Beside.l1 kj71 l0 a1 (x7_55.set ((ji137) : Int).toNat true) x8_1 (IntKind.i8.wrap (x9_2 + 1)) t335) else (none)) else (none)) = some r:=by first|(rw [hji137] at H;exact H)|(simp only [hji137] at H ⊢;exact H)
                                  by_cases c138 : 0≤(ji137)
                                  ·
                                   rw [if_pos c138] at H;have c138b0 : decide (0≤(ji137)) = true:=decide_eq_true c138;clear c138
                                   by_cases c139 : (ji137) < (x7_55.length : Int)
                                   ·
                                    rw [if_pos c139] at H;have c139b0 : decide ((ji137) < (x7_55.length : Int)) = true:=decide_eq_true c139;clear c139;obtain ⟨y351,hy351⟩ : ∃ y_ : List Bool,y_ = (x7_55.set ((ji137) : Int).toNat true):=⟨_,rfl⟩
                                    replace H : (spec_l01Beside.l1 kj71 l0 a1 y351 x8_1 (IntKind.i8.wrap (x9_2 + 1)) t335) = some r:=by first|(rw [hy351];with_reducible exact H)|(have H2_:=(Option.bind_some _ _).symm.trans H;rw [hy351];with_reducible exact H2_)|(have H2_:=(Option.bind_some _ _).symm.trans H;with_reducible exact H2_)|with_reducible exact H|(rw [hy351];exact H)|exact H
                                    have Ny351:=am_ hy351;clear hy351;have H':=am_ H;clear H;have p126 : 0≤((ji123) : Int):=od_ (by first|(with_reducible assumption)|assumption);have q126 : ((ji123) : Int) < (12 : Int):=od_ (by first|(with_reducible assumption)|assumption);replace p126:=eq_true p126;replace q126:=eq_true q126;have p129 : 0≤(x9_2 : Int):=od_ (by first|(with_reducible assumption)|assumption);have q129 : (x9_2 : Int) < (12 : Int):=od_ (by first|(with_reducible assumption)|assumption);replace p129:=eq_true p129;replace q129:=eq_true q129;have haz141 : wc.cell? ⟨gb337,(ji123).toNat * 12 + x9_2.toNat,none⟩ = some (.int .i64 (rd t335 ((ji123) * 12 + x9_2))):=arr_cell (by (with_reducible repeat (first|apply kN_|apply kD_|apply kA_));exact BK337.out) ((ji123) * 12 + x9_2) _ (by have h0_ : (0 : Int)≤(ji123):=od_ (by first|(with_reducible assumption)|assumption);have h1_ : (0 : Int)≤x9_2:=od_ (by first|(with_reducible assumption)|assumption);omega) (od_ (by first|(with_reducible assumption)|assumption));have p134 : 0≤(x8_1 : Int):=od_ (by first|(with_reducible assumption)|assumption);have q134 : (x8_1 : Int) < (12 : Int):=od_ (by first|(with_reducible assumption)|assumption);replace p134:=eq_true p134;replace q134:=eq_true q134;have p135 : 0≤(x9_2 : Int):=od_ (by first|(with_reducible assumption)|assumption);have q135 : (x9_2 : Int) < (12 : Int):=od_ (by first|(with_reducible assumption)|assumption);replace p135:=eq_true p135;replace q135:=eq_true q135;have haz142 : wc.cell? ⟨gb337,x8_1.toNat * 12 + x9_2.toNat,none⟩ = some (.int .i64 (rd t335 (x8_1 * 12 + x9_2))):=arr_cell (by (with_reducible repeat (first|apply kN_|apply kD_|apply kA_));exact BK337.out) (x8_1 * 12 + x9_2) _ (by have h0_ : (0 : Int)≤x8_1:=od_ (by first|(with_reducible assumption)|assumption);have h1_ : (0 : Int)≤x9_2:=od_ (by first|(with_reducible assumption)|assumption);omega) (od_ (by first|(with_reducible assumption)|assumption));have p140 : 0≤((ji137) : Int):=od_ (by first|(with_reducible assumption)|assumption);have q140 : ((ji137) : Int) < ((x7_55.length : Int) : Int):=od_ (by first|(with_reducible assumption)|assumption);obtain ⟨go140,co140,eo140,gb140,gl140,cl140,HG140⟩:=Kd.R_form HO_7.out (by omega)
                                    (first|cases eo140|(injection eo140 with ea_ en_ ec_;(first|subst ea_|(injection ea_ with ea_;subst ea_));subst ec_;clear en_))
                                    have GB140:=am_ gb140;have GG140:=am_ HG140;clear gb140 gl140 HG140;obtain ⟨hx140_0,hf140_0⟩:=Kd.R_celln false HO_7.out ((ji137) : Int) p140 q140;replace p140:=eq_true p140;replace q140:=eq_true q140;have HP143:=Kd.R_putg HO_7.out ((ji137) : Int) true
                                    go_wp2_with (first|((with_reducible refine gate_store (t:=4) (p:=119) rfl ?_);refine store_event (t:=4) (p:=119) (v:=?vo_w144) (w1:=(wc.setCell ⟨go140,((ji137) : Int).toNat,none⟩ (.bool true))) ?hg ?ho ?hn ?hr ?_;(case ho=>rfl);(case hg=>rfl);(case hn=>rfl);(case hr=>first|(go_simp;done)|(go_simp;rfl));intro w144 hw;have hg : wc.grownBy w144 (some go140):=(by rw [hw];exact HP143.2);have hp_ : Kd.R Kd.bool 4 w144 w.heap.size (fun _=>True) (.slice (some ⟨go140,0,none⟩) x7_55.length co140) y351:=(by rw [hw,Ny351.out];exact HP143.1);clear HP143;have n0_:=am_ (hp_);have n1_:=am_ (blk_grown (g:=gb337) (o:=.cells (arrC .i64 t335) 83 (0,0)) (by (with_reducible repeat (first|apply kN_|apply kD_|apply kA_));exact BK337.out) hg (Kd.R_ne HO_7.out BK337.out (by decide)));have n2_:=am_ ((by rw [hw];exact bS_ (HB.out) GB140.out : Below w.heap.size w w144));clear HO_7;clear BK337;clear HB;have HO_7:=n0_;have BK337:=n1_;have HB:=n2_;clear n0_ n1_ n2_;clear hg hw hp_))
                                    go_roundg kj71
                                    case measure=>have:=HK1.out;have:=HK2.out;have:=HJ17.out;have:=HJ27.out;have:=HJ44.out;have:=HJ55.out;have:=HJ71.out;omega
                                    case rel=>exact ⟨(y351),(IntKind.i8.wrap (x9_2 + 1)),(by first|rfl|(simp;done)|(simp [*];done)),H',⟨by have:=HK1.out;have:=HK2.out;have:=HJ17.out;have:=HJ27.out;have:=HJ44.out;have:=HJ55.out;have:=HJ71.out;omega⟩,⟨by (with_reducible repeat (first|apply Kd.R_alloc|apply Kd.R_drewN|apply Kd.R_drew));exact HO_7.out⟩,⟨by (with_reducible repeat (first|apply kN_|apply kD_|apply kA_));exact BK337.out⟩,⟨by repeat (first|(with_reducible first|exact HB.out|apply bA_|apply bN_|apply bD_|refine bS_ ?_ GE337.out)|exact HB.out)⟩⟩
                                   ·
                                    rw [if_neg c139] at H;exact absurd H (by simp)
                                  ·
                                   rw [if_neg c138] at H;exact absurd H (by simp)
                                 ·
                                  rw [if_neg c136] at H;exact absurd H (by simp)
                                ·
                                 rw [if_neg c133] at H;exact absurd H (by simp)
                               ·
                                rw [if_neg c132] at H;exact absurd H (by simp)
                              ·
                               rw [if_neg c131] at H;have c131b0 : ((rd t335 ((ji123) * 12 + x9_2)) == (wrap64 (a1 + 1))) = false:=beq_eq_false_iff_ne.mpr c131;have c131b1 : ((rd t335 ((ji123) * 12 + x9_2)) != (wrap64 (a1 + 1))) = true:=bne_iff_ne.mpr c131;have H':=am_ H;clear H;have p126 : 0≤((ji123) : Int):=od_ (by first|(with_reducible assumption)|assumption);have q126 : ((ji123) : Int) < (12 : Int):=od_ (by first|(with_reducible assumption)|assumption);replace p126:=eq_true p126;replace q126:=eq_true q126;have p129 : 0≤(x9_2 : Int):=od_ (by first|(with_reducible assumption)|assumption);have q129 : (x9_2 : Int) < (12 : Int):=od_ (by first|(with_reducible assumption)|assumption);replace p129:=eq_true p129;replace q129:=eq_true q129;have haz145 : wc.cell? ⟨gb337,(ji123).toNat * 12 + x9_2.toNat,none⟩ = some (.int .i64 (rd t335 ((ji123) * 12 + x9_2))):=arr_cell (by (with_reducible repeat (first|apply kN_|apply kD_|apply kA_));exact BK337.out) ((ji123) * 12 + x9_2) _ (by have h0_ : (0 : Int)≤(ji123):=od_ (by first|(with_reducible assumption)|assumption);have h1_ : (0 : Int)≤x9_2:=od_ (by first|(with_reducible assumption)|assumption);omega) (od_ (by first|(with_reducible assumption)|assumption))
                               go_wp2
                               go_roundg kj71
                               case measure=>have:=HK1.out;have:=HK2.out;have:=HJ17.out;have:=HJ27.out;have:=HJ44.out;have:=HJ55.out;have:=HJ71.out;omega
                               case rel=>exact ⟨(x7_55),(IntKind.i8.wrap (x9_2 + 1)),(by first|rfl|(simp;done)|(simp [*];done)),H',⟨by have:=HK1.out;have:=HK2.out;have:=HJ17.out;have:=HJ27.out;have:=HJ44.out;have:=HJ55.out;have:=HJ71.out;omega⟩,⟨by (with_reducible repeat (first|apply Kd.R_alloc|apply Kd.R_drewN|apply Kd.R_drew));exact HO_7.out⟩,⟨by (with_reducible repeat (first|apply kN_|apply kD_|apply kA_));exact BK337.out⟩,⟨by repeat (first|(with_reducible first|exact HB.out|apply bA_|apply bN_|apply bD_|refine bS_ ?_ GE337.out)|exact HB.out)⟩⟩
                             ·
                              rw [if_neg c130] at H;exact absurd H (by simp)
                            ·
                             rw [if_neg c128] at H;exact absurd H (by simp)
                           ·
                            rw [if_neg c127] at H;exact absurd H (by simp)
                          ·
                           rw [if_neg c125] at H;exact absurd H (by simp)
                         ·
                          rw [if_neg c124] at H;exact absurd H (by simp)
                        ·
                         rw [if_neg c122] at H;have c122b0 : decide (0 < x8_1) = false:=decide_eq_false c122;clear c122;have H':=am_ H;clear H
                         go_wp2
                         go_roundg kj71
                         case measure=>have:=HK1.out;have:=HK2.out;have:=HJ17.out;have:=HJ27.out;have:=HJ44.out;have:=HJ55.out;have:=HJ71.out;omega
                         case rel=>exact ⟨(x7_55),(IntKind.i8.wrap (x9_2 + 1)),(by first|rfl|(simp;done)|(simp [*];done)),H',⟨by have:=HK1.out;have:=HK2.out;have:=HJ17.out;have:=HJ27.out;have:=HJ44.out;have:=HJ55.out;have:=HJ71.out;omega⟩,⟨by (with_reducible repeat (first|apply Kd.R_alloc|apply Kd.R_drewN|apply Kd.R_drew));exact HO_7.out⟩,⟨by (with_reducible repeat (first|apply kN_|apply kD_|apply kA_));exact BK337.out⟩,⟨by repeat (first|(with_reducible first|exact HB.out|apply bA_|apply bN_|apply bD_|refine bS_ ?_ GE337.out)|exact HB.out)⟩⟩
            ·
             rw [if_neg c17] at H;have c17b0 : decide (x9_2 < ((rd_T30 l0 0).f0)) = false:=decide_eq_false c17;clear c17;have H':=am_ H;clear H;have p345 : 0≤(0 : Int):=(by omega)
             have q345 : 0 < (l0.length : Int):=od_ (by first|(with_reducible assumption)|assumption);obtain ⟨ad345,A345_2,c345_2,e345,hx345_0,hx345_1,hx345_2,hl345_2,hi345_2⟩:=at_T30 HR0.out 0 p345 q345;obtain rfl : ad338 = ad345:=(by injection e345)
             have qi345 : (0 < l0.length) = True:=eq_true (by omega);(try rw [show ((0 : Int)).toNat = 0 from rfl] at hx345_0);(try rw [show 0 * 3 = 0 from rfl] at hx345_0);(try rw [Addr.add_zero'] at hx345_0);(try rw [show ((0 : Int)).toNat = 0 from rfl] at hx345_1);(try rw [show 0 * 3 = 0 from rfl] at hx345_1);(try rw [Addr.add_zero'] at hx345_1);(try rw [show ((0 : Int)).toNat = 0 from rfl] at hx345_2);(try rw [show 0 * 3 = 0 from rfl] at hx345_2);(try rw [Addr.add_zero'] at hx345_2);replace hx345_0:=(HB.out.cell (bl_ w _ hx345_0)).trans hx345_0;replace hx345_1:=(HB.out.cell (bl_ w _ hx345_1)).trans hx345_1;replace hx345_2:=(HB.out.cell (bl_ w _ hx345_2)).trans hx345_2;have HR345_2:=am_ hi345_2;have HC345_2:=am_ hl345_2;clear hi345_2 hl345_2;replace p345:=eq_true p345;replace q345:=eq_true q345;have p346 : 0≤(0 : Int):=(by omega)
             have q346 : 0 < (l0.length : Int):=od_ (by first|(with_reducible assumption)|assumption);obtain ⟨ad346,A346_2,c346_2,e346,hx346_0,hx346_1,hx346_2,hl346_2,hi346_2⟩:=at_T30 HR0.out 0 p346 q346;obtain rfl : ad338 = ad346:=(by injection e346)
             have qi346 : (0 < l0.length) = True:=eq_true (by omega);(try rw [show ((0 : Int)).toNat = 0 from rfl] at hx346_0);(try rw [show 0 * 3 = 0 from rfl] at hx346_0);(try rw [Addr.add_zero'] at hx346_0);(try rw [show ((0 : Int)).toNat = 0 from rfl] at hx346_1);(try rw [show 0 * 3 = 0 from rfl] at hx346_1);(try rw [Addr.add_zero'] at hx346_1);(try rw [show ((0 : Int)).toNat = 0 from rfl] at hx346_2);(try rw [show 0 * 3 = 0 from rfl] at hx346_2);(try rw [Addr.add_zero'] at hx346_2);replace hx346_0:=(HB.out.cell (bl_ w _ hx346_0)).trans hx346_0;replace hx346_1:=(HB.out.cell (bl_ w _ hx346_1)).trans hx346_1;replace hx346_2:=(HB.out.cell (bl_ w _ hx346_2)).trans hx346_2;have HR346_2:=am_ hi346_2;have HC346_2:=am_ hl346_2;clear hi346_2 hl346_2;replace p346:=eq_true p346;replace q346:=eq_true q346;have ea_:=Option.some.inj (hx345_2.symm.trans hx346_2)
             injection ea_ with ea_ en_ ec_
             subst ea_;subst ec_;clear en_
             go_wp2
             go_roundg k2
             case measure=>have:=HK1.out;have:=HK2.out;omega
             case rel=>exact ⟨(x7_2),(IntKind.i8.wrap (x8_1 + 1)),(by first|rfl|(simp;done)|(simp [*];done)),H',⟨by have:=HK1.out;have:=HK2.out;omega⟩,⟨by (with_reducible repeat (first|apply Kd.R_alloc|apply Kd.R_drewN|apply Kd.R_drew));exact HO_7.out⟩,⟨by (with_reducible repeat (first|apply kN_|apply kD_|apply kA_));exact BK337.out⟩,⟨by repeat (first|(with_reducible first|exact HB.out|apply bA_|apply bN_|apply bD_|refine bS_ ?_ GE337.out)|exact HB.out)⟩⟩
           ·
            rw [if_neg c16] at H;exact absurd H (by simp)
        ·
         rw [if_neg c15] at H;have c15b0 : decide (x8_1 < ((rd_T30 l0 0).f1)) = false:=decide_eq_false c15;clear c15;obtain ⟨y352,hy352⟩ : ∃ y_ : List Int,y_ = (([] : List Int)):=⟨_,rfl⟩
         replace H : (spec_l01Beside.l2 k1 l0 a1 x7_1 y352 0) = some r:=by first|(rw [hy352];with_reducible exact H)|(have H2_:=(Option.bind_some _ _).symm.trans H;rw [hy352];with_reducible exact H2_)|(have H2_:=(Option.bind_some _ _).symm.trans H;with_reducible exact H2_)|with_reducible exact H|(rw [hy352];exact H)|exact H
         have Ny352:=am_ hy352;clear hy352;have H':=am_ H;clear H;have p343 : 0≤(0 : Int):=(by omega)
         have q343 : 0 < (l0.length : Int):=od_ (by first|(with_reducible assumption)|assumption);obtain ⟨ad343,A343_2,c343_2,e343,hx343_0,hx343_1,hx343_2,hl343_2,hi343_2⟩:=at_T30 HR0.out 0 p343 q343;obtain rfl : ad338 = ad343:=(by injection e343)
         have qi343 : (0 < l0.length) = True:=eq_true (by omega);(try rw [show ((0 : Int)).toNat = 0 from rfl] at hx343_0);(try rw [show 0 * 3 = 0 from rfl] at hx343_0);(try rw [Addr.add_zero'] at hx343_0);(try rw [show ((0 : Int)).toNat = 0 from rfl] at hx343_1);(try rw [show 0 * 3 = 0 from rfl] at hx343_1);(try rw [Addr.add_zero'] at hx343_1);(try rw [show ((0 : Int)).toNat = 0 from rfl] at hx343_2);(try rw [show 0 * 3 = 0 from rfl] at hx343_2);(try rw [Addr.add_zero'] at hx343_2);replace hx343_0:=(HB.out.cell (bl_ w _ hx343_0)).trans hx343_0;replace hx343_1:=(HB.out.cell (bl_ w _ hx343_1)).trans hx343_1;replace hx343_2:=(HB.out.cell (bl_ w _ hx343_2)).trans hx343_2;have HR343_2:=am_ hi343_2;have HC343_2:=am_ hl343_2;clear hi343_2 hl343_2;replace p343:=eq_true p343;replace q343:=eq_true q343;have p344 : 0≤(0 : Int):=(by omega)
         have q344 : 0 < (l0.length : Int):=od_ (by first|(with_reducible assumption)|assumption);obtain ⟨ad344,A344_2,c344_2,e344,hx344_0,hx344_1,hx344_2,hl344_2,hi344_2⟩:=at_T30 HR0.out 0 p344 q344;obtain rfl : ad338 = ad344:=(by injection e344)
         have qi344 : (0 < l0.length) = True:=eq_true (by omega);(try rw [show ((0 : Int)).toNat = 0 from rfl] at hx344_0);(try rw [show 0 * 3 = 0 from rfl] at hx344_0);(try rw [Addr.add_zero'] at hx344_0);(try rw [show ((0 : Int)).toNat = 0 from rfl] at hx344_1);(try rw [show 0 * 3 = 0 from rfl] at hx344_1);(try rw [Addr.add_zero'] at hx344_1);(try rw [show ((0 : Int)).toNat = 0 from rfl] at hx344_2);(try rw [show 0 * 3 = 0 from rfl] at hx344_2);(try rw [Addr.add_zero'] at hx344_2);replace hx344_0:=(HB.out.cell (bl_ w _ hx344_0)).trans hx344_0;replace hx344_1:=(HB.out.cell (bl_ w _ hx344_1)).trans hx344_1;replace hx344_2:=(HB.out.cell (bl_ w _ hx344_2)).trans hx344_2;have HR344_2:=am_ hi344_2;have HC344_2:=am_ hl344_2;clear hi344_2 hl344_2;replace p344:=eq_true p344;replace q344:=eq_true q344;have ea_:=Option.some.inj (hx343_2.symm.trans hx344_2)
         injection ea_ with ea_ en_ ec_
         subst ea_;subst ec_;clear en_
         go_wp2_with (first|((with_reducible refine gate_dst (N:=120) rfl ?_);refine Kd.R_lit (Kd.int .i64) _ 2 ?hg (N:=120) ?hd (xs:=([] : List Int)) (inner:=[]) (ok:=fun _=>True) (okp:=fun _=>True) ?hr ?hp (fun _ hk=>hk) trivial (Below.refl _ _) (Nat.le_refl _) (by simp) ?_;(case hd=>rfl);(case hg=>rfl);(case hr=>first|(go_simp;done)|(go_simp;rfl));(case hp=>exact (Reps.none _ _));intro v353 w146 ho147 hb hg_ hnew_;clear hg_ hnew_;(first|rw [← Ny352.out] at ho147|(simp only [Int.reduceToNat] at ho147;rw [← Ny352.out] at ho147));have n0_:=am_ (Kd.R_below (by (with_reducible repeat (first|apply Kd.R_alloc|apply Kd.R_drewN|apply Kd.R_drew));exact HO_7.out) hb);have n1_:=am_ (Kd.R_lower ho147 (below_size (by repeat (first|(with_reducible first|exact HB.out|apply bA_|apply bN_|apply bD_|refine bS_ ?_ GE337.out)|exact HB.out))));have n2_:=am_ (blk_below (g:=gb337) (o:=.cells (arrC .i64 t335) 83 (0,0)) (by (with_reducible repeat (first|apply kN_|apply kD_|apply kA_));exact BK337.out) hb);have n3_:=am_ (bT_ (by repeat (first|(with_reducible first|exact HB.out|apply bA_|apply bN_|apply bD_|refine bS_ ?_ GE337.out)|exact HB.out)) hb);clear HO_7;clear BK337;clear HB;have HO_7:=n0_;have HO354:=n1_;have BK337:=n2_;have HB:=n3_;clear n0_ n1_ n2_ n3_;clear hb ho147))
         go_loopg [10,11] k1 (fun kq v10 v11 w'=>∃ (x10_2 : List Int) (x11_2 : Int),v11 = .int .i64 x11_2 ∧ Aside0 (spec_l01Beside.l2 kq l0 a1 x7_1 x10_2 x11_2 = some r) ∧ Aside0 (kq≤k1) ∧ Aside0 (Kd.R Kd.bool 4 w' w.heap.size (fun _=>True) v341 x7_1) ∧ Aside0 (Kd.R (Kd.int .i64) 2 w' w.heap.size (fun _=>True) v10 x10_2) ∧ Aside0 (w'.heap[gb337]? = some (.cells (arrC .i64 t335) 83 (0,0))) ∧ Aside0 (Below w.heap.size w w'))
         case atStart=>exact ⟨(y352),(0),(by first|rfl|(simp;done)|(simp [*];done)),H',⟨Nat.le_refl _⟩,⟨by (with_reducible repeat (first|apply Kd.R_alloc|apply Kd.R_drewN|apply Kd.R_drew));exact HO_7.out⟩,⟨by (with_reducible repeat (first|apply Kd.R_alloc|apply Kd.R_drewN|apply Kd.R_drew));exact HO354.out⟩,⟨by (with_reducible repeat (first|apply kN_|apply kD_|apply kA_));exact BK337.out⟩,⟨by repeat (first|(with_reducible first|exact HB.out|apply bA_|apply bN_|apply bD_|refine bS_ ?_ GE337.out)|exact HB.out)⟩⟩
         case round =>
          clear H';(try clear c1);(try clear p1);(try clear q1);(try clear hx1);(try clear p2);(try clear q2);(try clear c3);(try clear p3);(try clear q3);(try clear hx3);(try clear qi3);(try clear c4);(try clear p4);(try clear q4);(try clear hx4);(try clear hf4);(try clear c5);(try clear p5);(try clear q5);(try clear c6);(try clear p6);(try clear q6);(try clear hx6);(try clear hf6);(try clear c7);(try clear p7);(try clear q7);(try clear c8);(try clear p8);(try clear q8);(try clear c9);(try clear p9);(try clear q9);(try clear hx9);(try clear hf9);(try clear c10);(try clear p10);(try clear q10);(try clear hx10);(try clear hf10);(try clear c12);(try clear p12);(try clear q12);(try clear c13);(try clear p13);(try clear q13);(try clear p14);(try clear q14);(try clear hx14);(try clear hf14);(try clear c15);(try clear c15b0);(try clear c16);(try clear c17);(try clear c17b0);(try clear p22);(try clear q22);(try clear p25);(try clear q25);(try clear p32);(try clear q32);(try clear p33);(try clear q33);(try clear hx33);(try clear c34);(try clear p34);(try clear q34);(try clear hx34);(try clear qi34);(try clear p36);(try clear q36);(try clear c37);(try clear c37b0);(try clear c37b1);(try clear c39);(try clear c39b0);(try clear c40);(try clear c40b0);(try clear p41);(try clear q41);(try clear hx41);(try clear hf41);(try clear c46);(try clear c46b0);(try clear c47);(try clear c47b0);(try clear c48);(try clear c48b0);(try clear p49);(try clear q49);(try clear c51);(try clear c51b0);(try clear c52);(try clear c52b0);(try clear p53);(try clear q53);(try clear c54);(try clear c54b0);(try clear c54b1);(try clear c57);(try clear c58);(try clear c58b0);(try clear c59);(try clear c59b0);(try clear p60);(try clear q60);(try clear c61);(try clear c61b0);(try clear c62);(try clear c62b0);(try clear p63);(try clear q63);(try clear c64);(try clear c64b0);(try clear c64b1);(try clear p64);(try clear c66);(try clear c66b0);(try clear c67);(try clear c67b0);(try clear p68);(try clear q68);(try clear hx68);(try clear hf68);(try clear c73);(try clear c73b0);(try clear c74);(try clear c74b0);(try clear c75);(try clear c75b0);(try clear p76);(try clear q76);(try clear c77);(try clear c77b0);(try clear c78);(try clear c78b0);(try clear p79);(try clear q79);(try clear c80);(try clear c80b0);(try clear c80b1);(try clear c82);(try clear c84);(try clear c84b0);(try clear c85);(try clear c85b0);(try clear p86);(try clear q86);(try clear c87);(try clear c87b0);(try clear c88);(try clear c88b0);(try clear p89);(try clear q89);(try clear c90);(try clear c90b0);(try clear c90b1);(try clear c92);(try clear c92b0);(try clear c93);(try clear c93b0);(try clear p94);(try clear q94);(try clear hx94);(try clear hf94);(try clear c95);(try clear c95b0);(try clear p96);(try clear q96);(try clear p97);(try clear q97);(try clear c98);(try clear c98b0);(try clear c98b1);(try clear c99);(try clear c99b0);(try clear c100);(try clear c100b0);(try clear p101);(try clear q101);(try clear p102);(try clear q102);(try clear c103);(try clear c103b0);(try clear c103b1);(try clear c105);(try clear c105b0);(try clear c106);(try clear c106b0);(try clear p107);(try clear q107);(try clear hx107);(try clear hf107);(try clear c122);(try clear c122b0);(try clear c124);(try clear c124b0);(try clear c125);(try clear c125b0);(try clear p126);(try clear q126);(try clear c127);(try clear c127b0);(try clear c128);(try clear c128b0);(try clear p129);(try clear q129);(try clear c130);(try clear c130b0);(try clear c130b1);(try clear c131);(try clear c131b0);(try clear c131b1);(try clear c132);(try clear c132b0);(try clear c133);(try clear c133b0);(try clear p134);(try clear q134);(try clear p135);(try clear q135);(try clear c136);(try clear c136b0);(try clear c136b1);(try clear c138);(try clear c138b0)
          (try clear c139);(try clear c139b0);(try clear p140);(try clear q140);(try clear hx140);(try clear hf140);(try clear hx107_0);(try clear hx140_0);(try clear hx338_0);(try clear hx338_1);(try clear hx338_2);(try clear hx339_0);(try clear hx339_1);(try clear hx339_2);(try clear hx343_0);(try clear hx343_1);(try clear hx343_2);(try clear hx344_0);(try clear hx344_1);(try clear hx344_2);(try clear hx345_0);(try clear hx345_1);(try clear hx345_2);(try clear hx346_0);(try clear hx346_1);(try clear hx346_2);(try clear hx41_0);(try clear hx68_0);(try clear hx94_0);(try clear p101);(try clear p102);(try clear p107);(try clear p126);(try clear p129);(try clear p134);(try clear p135);(try clear p140);(try clear p2);(try clear p22);(try clear p25);(try clear p3);(try clear p32);(try clear p33);(try clear p338);(try clear p339);(try clear p34);(try clear p343);(try clear p344);(try clear p345);(try clear p346);(try clear p36);(try clear p4);(try clear p41);(try clear p49);(try clear p5);(try clear p53);(try clear p6);(try clear p60);(try clear p63);(try clear p64);(try clear p68);(try clear p76);(try clear p79);(try clear p86);(try clear p89);(try clear p94);(try clear p96);(try clear p97);(try clear q101);(try clear q102);(try clear q107);(try clear q126);(try clear q129);(try clear q134);(try clear q135);(try clear q140);(try clear q2);(try clear q22);(try clear q25);(try clear q3);(try clear q32);(try clear q33);(try clear q338);(try clear q339);(try clear q34);(try clear q343);(try clear q344);(try clear q345);(try clear q346);(try clear q36);(try clear q4);(try clear q41);(try clear q49);(try clear q5);(try clear q53);(try clear q6);(try clear q60);(try clear q63);(try clear q68);(try clear q76);(try clear q79);(try clear q86);(try clear q89);(try clear q94);(try clear q96);(try clear q97);obtain ⟨x10_2,x11_2,rfl,HA,HK2,HO_7,HO_10,BK337,HB⟩:=hrel
          cases gk with
          | zero=>exact absurd HA.out (by simp [spec_l01Beside.l2])
          | succ k2 =>
           have H:=HA.out;clear HA;simp only [spec_l01Beside.l2] at H
           by_cases c148 : 0 < (l0.length : Int)
           ·
            rw [if_pos c148] at H;have c148b0 : decide (0 < (l0.length : Int)) = true:=decide_eq_true c148;have c148b1 : decide (0 < l0.length) = true:=decide_eq_true (by omega);clear c148
            by_cases c149 : x11_2 < (((rd_T30 l0 0).f2).length : Int)
            ·
             rw [if_pos c149] at H;have c149b0 : decide (x11_2 < (((rd_T30 l0 0).f2).length : Int)) = true:=decide_eq_true c149;clear c149;obtain ⟨ji150,hji150⟩ : ∃ j_ : Int,(wrap64 (x11_2 + 1)) = j_:=⟨_,rfl⟩
             replace H : (if 0≤(ji150) then (if (ji150) < (x7_1.length : Int) then (if rdOf false x7_1 (ji150) = true then (if x11_2 = a1 then (spec_l01Beside.l2 k2 l0 a1 x7_1 x10_2 ji150) else (if x10_2.length < 17592186044416 then (spec_l01Beside.l2 k2 l0 a1 x7_1 (x10_2 ++ [x11_2]) ji150) else (none))) else (spec_l01Beside.l2 k2 l0 a1 x7_1 x10_2 ji150)) else (none)) else (none)) = some r:=by first|(rw [hji150] at H;exact H)|(simp only [hji150] at H ⊢;exact H)
             have hji150w : (IntKind.i64.wrap (x11_2 + 1)) = ji150:=(i64_w _).trans hji150
             by_cases c151 : 0≤(ji150)
             ·
              rw [if_pos c151] at H;have c151b0 : decide (0≤(ji150)) = true:=decide_eq_true c151;clear c151
              by_cases c152 : (ji150) < (x7_1.length : Int)
              ·
               rw [if_pos c152] at H;have c152b0 : decide ((ji150) < (x7_1.length : Int)) = true:=decide_eq_true c152;clear c152;obtain ⟨bq153,hbq153⟩ : ∃ b_ : Bool,b_ = (rdOf false x7_1 (ji150)):=⟨_,rfl⟩
               replace H : (if bq153 = true then (if x11_2 = a1 then (spec_l01Beside.l2 k2 l0 a1 x7_1 x10_2 ji150) else (if x10_2.length < 17592186044416 then (spec_l01Beside.l2 k2 l0 a1 x7_1 (x10_2 ++ [x11_2]) ji150) else (none))) else (spec_l01Beside.l2 k2 l0 a1 x7_1 x10_2 ji150)) = some r:=by rw [← hbq153] at H;exact H
               have Nbq153:=am_ hbq153;clear hbq153
               by_cases c154 : bq153 = true
               ·
                subst c154;have H1 : (if x11_2 = a1 then (spec_l01Beside.l2 k2 l0 a1 x7_1 x10_2 ji150) else (if x10_2.length < 17592186044416 then (spec_l01Beside.l2 k2 l0 a1 x7_1 (x10_2 ++ [x11_2]) ji150) else (none))) = some r:=by rw [if_pos rfl] at H;exact H
                clear H;have H:=H1;clear H1
                by_cases c155 : x11_2 = a1
                ·
                 rw [if_pos c155] at H;have c155b0 : (x11_2 == a1) = true:=beq_iff_eq.mpr c155;have c155b1 : (x11_2 != a1) = false:=bne_eq_false_iff_eq.mpr c155;clear c155;have H':=am_ H;clear H;have p355 : 0≤(0 : Int):=(by omega)
                 have q355 : 0 < (l0.length : Int):=od_ (by first|(with_reducible assumption)|assumption);obtain ⟨ad355,A355_2,c355_2,e355,hx355_0,hx355_1,hx355_2,hl355_2,hi355_2⟩:=at_T30 HR0.out 0 p355 q355;obtain rfl : ad338 = ad355:=(by injection e355)
                 have qi355 : (0 < l0.length) = True:=eq_true (by omega);(try rw [show ((0 : Int)).toNat = 0 from rfl] at hx355_0);(try rw [show 0 * 3 = 0 from rfl] at hx355_0);(try rw [Addr.add_zero'] at hx355_0);(try rw [show ((0 : Int)).toNat = 0 from rfl] at hx355_1);(try rw [show 0 * 3 = 0 from rfl] at hx355_1);(try rw [Addr.add_zero'] at hx355_1);(try rw [show ((0 : Int)).toNat = 0 from rfl] at hx355_2);(try rw [show 0 * 3 = 0 from rfl] at hx355_2);(try rw [Addr.add_zero'] at hx355_2);replace hx355_0:=(HB.out.cell (bl_ w _ hx355_0)).trans hx355_0;replace hx355_1:=(HB.out.cell (bl_ w _ hx355_1)).trans hx355_1;replace hx355_2:=(HB.out.cell (bl_ w _ hx355_2)).trans hx355_2;have HR355_2:=am_ hi355_2;have HC355_2:=am_ hl355_2;clear hi355_2 hl355_2;replace p355:=eq_true p355;replace q355:=eq_true q355;have p356 : 0≤(0 : Int):=(by omega)
                 have q356 : 0 < (l0.length : Int):=od_ (by first|(with_reducible assumption)|assumption);obtain ⟨ad356,A356_2,c356_2,e356,hx356_0,hx356_1,hx356_2,hl356_2,hi356_2⟩:=at_T30 HR0.out 0 p356 q356;obtain rfl : ad338 = ad356:=(by injection e356)
                 have qi356 : (0 < l0.length) = True:=eq_true (by omega);(try rw [show ((0 : Int)).toNat = 0 from rfl] at hx356_0);(try rw [show 0 * 3 = 0 from rfl] at hx356_0);(try rw [Addr.add_zero'] at hx356_0);(try rw [show ((0 : Int)).toNat = 0 from rfl] at hx356_1);(try rw [show 0 * 3 = 0 from rfl] at hx356_1);(try rw [Addr.add_zero'] at hx356_1);(try rw [show ((0 : Int)).toNat = 0 from rfl] at hx356_2);(try rw [show 0 * 3 = 0 from rfl] at hx356_2);(try rw [Addr.add_zero'] at hx356_2);replace hx356_0:=(HB.out.cell (bl_ w _ hx356_0)).trans hx356_0;replace hx356_1:=(HB.out.cell (bl_ w _ hx356_1)).trans hx356_1;replace hx356_2:=(HB.out.cell (bl_ w _ hx356_2)).trans hx356_2;have HR356_2:=am_ hi356_2;have HC356_2:=am_ hl356_2;clear hi356_2 hl356_2;replace p356:=eq_true p356;replace q356:=eq_true q356;have ea_:=Option.some.inj (hx355_2.symm.trans hx356_2)
                 injection ea_ with ea_ en_ ec_
                 subst ea_;subst ec_;clear en_;obtain ⟨Ao156,co156,eo156⟩:=Kd.R_slice HO_7.out;subst eo156;have p357 : 0≤((ji150) : Int):=od_ (by first|(with_reducible assumption)|assumption);have q357 : (ji150) < (x7_1.length : Int):=od_ (by first|(with_reducible assumption)|assumption);obtain ⟨ad357,e357,hx357_0⟩:=Kd.at_bool (Kd.R_reads' HO_7.out).2.2 (ji150) p357 q357;(try rw [← Nbq153.out] at hx357_0)
                 cases e357
                 replace p357:=eq_true p357;replace q357:=eq_true q357
                 go_wp2
                 go_roundg k2
                 case measure=>have:=HK1.out;have:=HK2.out;omega
                 case rel=>exact ⟨(x10_2),(ji150),(by first|rfl|(simp;done)|(simp only [← hji150] <;> (first|rfl|simp))|(simp [*];done)),H',⟨by have:=HK1.out;have:=HK2.out;omega⟩,⟨by (with_reducible repeat (first|apply Kd.R_alloc|apply Kd.R_drewN|apply Kd.R_drew));exact HO_7.out⟩,⟨by (with_reducible repeat (first|apply Kd.R_alloc|apply Kd.R_drewN|apply Kd.R_drew));exact HO_10.out⟩,⟨by (with_reducible repeat (first|apply kN_|apply kD_|apply kA_));exact BK337.out⟩,⟨by repeat (first|(with_reducible first|exact HB.out|apply bA_|apply bN_|apply bD_|refine bS_ ?_ GE337.out)|exact HB.out)⟩⟩
                ·
                 rw [if_neg c155] at H;have c155b0 : (x11_2 == a1) = false:=beq_eq_false_iff_ne.mpr c155;have c155b1 : (x11_2 != a1) = true:=bne_iff_ne.mpr c155
                 by_cases c157 : x10_2.length < 17592186044416
                 ·
                  rw [if_pos c157] at H;have LMc157:=am_ c157;clear c157;obtain ⟨y358,hy358⟩ : ∃ y_ : List Int,y_ = (x10_2 ++ [x11_2]):=⟨_,rfl⟩
                  replace H : (spec_l01Beside.l2 k2 l0 a1 x7_1 y358 ji150) = some r:=by first|(rw [hy358];with_reducible exact H)|(have H2_:=(Option.bind_some _ _).symm.trans H;rw [hy358];with_reducible exact H2_)|(have H2_:=(Option.bind_some _ _).symm.trans H;with_reducible exact H2_)|with_reducible exact H|(rw [hy358];exact H)|exact H
                  have Ny358:=am_ hy358;clear hy358;have H':=am_ H;clear H;have p355 : 0≤(0 : Int):=(by omega)
                  have q355 : 0 < (l0.length : Int):=od_ (by first|(with_reducible assumption)|assumption);obtain ⟨ad355,A355_2,c355_2,e355,hx355_0,hx355_1,hx355_2,hl355_2,hi355_2⟩:=at_T30 HR0.out 0 p355 q355;obtain rfl : ad338 = ad355:=(by injection e355)
                  have qi355 : (0 < l0.length) = True:=eq_true (by omega);(try rw [show ((0 : Int)).toNat = 0 from rfl] at hx355_0);(try rw [show 0 * 3 = 0 from rfl] at hx355_0);(try rw [Addr.add_zero'] at hx355_0);(try rw [show ((0 : Int)).toNat = 0 from rfl] at hx355_1);(try rw [show 0 * 3 = 0 from rfl] at hx355_1);(try rw [Addr.add_zero'] at hx355_1);(try rw [show ((0 : Int)).toNat = 0 from rfl] at hx355_2);(try rw [show 0 * 3 = 0 from rfl] at hx355_2);(try rw [Addr.add_zero'] at hx355_2);replace hx355_0:=(HB.out.cell (bl_ w _ hx355_0)).trans hx355_0;replace hx355_1:=(HB.out.cell (bl_ w _ hx355_1)).trans hx355_1;replace hx355_2:=(HB.out.cell (bl_ w _ hx355_2)).trans hx355_2;have HR355_2:=am_ hi355_2;have HC355_2:=am_ hl355_2;clear hi355_2 hl355_2;replace p355:=eq_true p355;replace q355:=eq_true q355;have p356 : 0≤(0 : Int):=(by omega)
                  have q356 : 0 < (l0.length : Int):=od_ (by first|(with_reducible assumption)|assumption);obtain ⟨ad356,A356_2,c356_2,e356,hx356_0,hx356_1,hx356_2,hl356_2,hi356_2⟩:=at_T30 HR0.out 0 p356 q356;obtain rfl : ad338 = ad356:=(by injection e356)
                  have qi356 : (0 < l0.length) = True:=eq_true (by omega);(try rw [show ((0 : Int)).toNat = 0 from rfl] at hx356_0);(try rw [show 0 * 3 = 0 from rfl] at hx356_0);(try rw [Addr.add_zero'] at hx356_0);(try rw [show ((0 : Int)).toNat = 0 from rfl] at hx356_1);(try rw [show 0 * 3 = 0 from rfl] at hx356_1);(try rw [Addr.add_zero'] at hx356_1);(try rw [show ((0 : Int)).toNat = 0 from rfl] at hx356_2);(try rw [show 0 * 3 = 0 from rfl] at hx356_2);(try rw [Addr.add_zero'] at hx356_2);replace hx356_0:=(HB.out.cell (bl_ w _ hx356_0)).trans hx356_0;replace hx356_1:=(HB.out.cell (bl_ w _ hx356_1)).trans hx356_1;replace hx356_2:=(HB.out.cell (bl_ w _ hx356_2)).trans hx356_2;have HR356_2:=am_ hi356_2;have HC356_2:=am_ hl356_2;clear hi356_2 hl356_2;replace p356:=eq_true p356;replace q356:=eq_true q356;have ea_:=Option.some.inj (hx355_2.symm.trans hx356_2)
                  injection ea_ with ea_ en_ ec_
                  subst ea_;subst ec_;clear en_;obtain ⟨Ao158,co158,eo158⟩:=Kd.R_slice HO_7.out;subst eo158;have p357 : 0≤((ji150) : Int):=od_ (by first|(with_reducible assumption)|assumption);have q357 : (ji150) < (x7_1.length : Int):=od_ (by first|(with_reducible assumption)|assumption);obtain ⟨ad357,e357,hx357_0⟩:=Kd.at_bool (Kd.R_reads' HO_7.out).2.2 (ji150) p357 q357;(try rw [← Nbq153.out] at hx357_0)
                  cases e357
                  replace p357:=eq_true p357;replace q357:=eq_true q357
                  go_wp2_with (first|((with_reducible refine gate_builtin (b:=.append) (xs:=#[.tmp 140,.tmp 142]) rfl ?_);at_builtin;refine Kd.R_append (Kd.int .i64) (w0:=w) w.heap.size rfl (.tmp 140) (.tmp 142) 59 2 (.int .i64 0) 8 rfl Try.underlying59 info2 rfl (by decide) (by omega) u10 x10_2 x11_2 [.int .i64 x11_2] (fun _=>True) (fun _=>False) rfl rfl ?aP (fun _ hk=>hk.elim) ?aF ?aO ?aB ?aS ?aL ?_;(case aP=>exact rfl);(case aB=>exact (by repeat (first|(with_reducible first|exact HB.out|apply bA_|apply bN_|apply bD_|refine bS_ ?_ GE337.out)|exact HB.out)));(case aF=>exact (fun _ _=>trivial));(case aO=>exact (by (with_reducible repeat (first|apply Kd.R_alloc|apply Kd.R_drewN|apply Kd.R_drew));exact HO_10.out));(case aS=>exact (below_size (by repeat (first|(with_reducible first|exact HB.out|apply bA_|apply bN_|apply bD_|refine bS_ ?_ GE337.out)|exact HB.out))));(case aL=>have:=LMc157.out;omega);intro v359 w159 ho hb hg hat;rw [← Ny358.out] at ho;have n0_:=am_ (Kd.R_over' (by (with_reducible repeat (first|apply Kd.R_alloc|apply Kd.R_drewN|apply Kd.R_drew));exact HO_7.out) (Kd.R_typed (by (with_reducible repeat (first|apply Kd.R_alloc|apply Kd.R_drewN|apply Kd.R_drew));exact HO_10.out)) (by decide) hg);have n1_:=am_ (blk_grown (g:=gb337) (o:=.cells (arrC .i64 t335) 83 (0,0)) (by (with_reducible repeat (first|apply kN_|apply kD_|apply kA_));exact BK337.out) hg (Kd.R_ne HO_10.out BK337.out (by decide)));have n2_:=am_ (hb);have n3_:=am_ (ho);clear HO_7;clear BK337;clear HB;clear HO_10;have HO_7:=n0_;have BK337:=n1_;have HB:=n2_;have HO360:=n3_;clear n0_ n1_ n2_ n3_;clear ho hb hg hat))
                  go_roundg k2
                  case measure=>have:=HK1.out;have:=HK2.out;omega
                  case rel=>exact ⟨(y358),(ji150),(by first|rfl|(simp;done)|(simp only [← hji150] <;> (first|rfl|simp))|(simp [*];done)),H',⟨by have:=HK1.out;have:=HK2.out;omega⟩,⟨by (with_reducible repeat (first|apply Kd.R_alloc|apply Kd.R_drewN|apply Kd.R_drew));exact HO_7.out⟩,⟨by (with_reducible repeat (first|apply Kd.R_alloc|apply Kd.R_drewN|apply Kd.R_drew));exact HO360.out⟩,⟨by (with_reducible repeat (first|apply kN_|apply kD_|apply kA_));exact BK337.out⟩,⟨by repeat (first|(with_reducible first|exact HB.out|apply bA_|apply bN_|apply bD_|refine bS_ ?_ GE337.out)|exact HB.out)⟩⟩
                 ·
                  rw [if_neg c157] at H;exact absurd H (by simp)
               ·
                replace c154:=Bool.eq_false_iff.mpr c154;subst c154;have H1 : (spec_l01Beside.l2 k2 l0 a1 x7_1 x10_2 ji150) = some r:=by rw [if_neg (show ¬ (false = true) by decide)] at H;exact H
                clear H;have H:=H1;clear H1;have H':=am_ H;clear H;have p355 : 0≤(0 : Int):=(by omega)
                have q355 : 0 < (l0.length : Int):=od_ (by first|(with_reducible assumption)|assumption);obtain ⟨ad355,A355_2,c355_2,e355,hx355_0,hx355_1,hx355_2,hl355_2,hi355_2⟩:=at_T30 HR0.out 0 p355 q355;obtain rfl : ad338 = ad355:=(by injection e355)
                have qi355 : (0 < l0.length) = True:=eq_true (by omega);(try rw [show ((0 : Int)).toNat = 0 from rfl] at hx355_0);(try rw [show 0 * 3 = 0 from rfl] at hx355_0);(try rw [Addr.add_zero'] at hx355_0);(try rw [show ((0 : Int)).toNat = 0 from rfl] at hx355_1);(try rw [show 0 * 3 = 0 from rfl] at hx355_1);(try rw [Addr.add_zero'] at hx355_1);(try rw [show ((0 : Int)).toNat = 0 from rfl] at hx355_2);(try rw [show 0 * 3 = 0 from rfl] at hx355_2);(try rw [Addr.add_zero'] at hx355_2);replace hx355_0:=(HB.out.cell (bl_ w _ hx355_0)).trans hx355_0;replace hx355_1:=(HB.out.cell (bl_ w _ hx355_1)).trans hx355_1;replace hx355_2:=(HB.out.cell (bl_ w _ hx355_2)).trans hx355_2;have HR355_2:=am_ hi355_2;have HC355_2:=am_ hl355_2;clear hi355_2 hl355_2;replace p355:=eq_true p355;replace q355:=eq_true q355;have p356 : 0≤(0 : Int):=(by omega)
                have q356 : 0 < (l0.length : Int):=od_ (by first|(with_reducible assumption)|assumption);obtain ⟨ad356,A356_2,c356_2,e356,hx356_0,hx356_1,hx356_2,hl356_2,hi356_2⟩:=at_T30 HR0.out 0 p356 q356;obtain rfl : ad338 = ad356:=(by injection e356)
                have qi356 : (0 < l0.length) = True:=eq_true (by omega);(try rw [show ((0 : Int)).toNat = 0 from rfl] at hx356_0);(try rw [show 0 * 3 = 0 from rfl] at hx356_0);(try rw [Addr.add_zero'] at hx356_0);(try rw [show ((0 : Int)).toNat = 0 from rfl] at hx356_1);(try rw [show 0 * 3 = 0 from rfl] at hx356_1);(try rw [Addr.add_zero'] at hx356_1);(try rw [show ((0 : Int)).toNat = 0 from rfl] at hx356_2);(try rw [show 0 * 3 = 0 from rfl] at hx356_2);(try rw [Addr.add_zero'] at hx356_2);replace hx356_0:=(HB.out.cell (bl_ w _ hx356_0)).trans hx356_0;replace hx356_1:=(HB.out.cell (bl_ w _ hx356_1)).trans hx356_1;replace hx356_2:=(HB.out.cell (bl_ w _ hx356_2)).trans hx356_2;have HR356_2:=am_ hi356_2;have HC356_2:=am_ hl356_2;clear hi356_2 hl356_2;replace p356:=eq_true p356;replace q356:=eq_true q356;have ea_:=Option.some.inj (hx355_2.symm.trans hx356_2)
                injection ea_ with ea_ en_ ec_
                subst ea_;subst ec_;clear en_;obtain ⟨Ao160,co160,eo160⟩:=Kd.R_slice HO_7.out;subst eo160;have p357 : 0≤((ji150) : Int):=od_ (by first|(with_reducible assumption)|assumption);have q357 : (ji150) < (x7_1.length : Int):=od_ (by first|(with_reducible assumption)|assumption);obtain ⟨ad357,e357,hx357_0⟩:=Kd.at_bool (Kd.R_reads' HO_7.out).2.2 (ji150) p357 q357;(try rw [← Nbq153.out] at hx357_0)
                cases e357
                replace p357:=eq_true p357;replace q357:=eq_true q357
                go_wp2
                go_roundg k2
                case measure=>have:=HK1.out;have:=HK2.out;omega
                case rel=>exact ⟨(x10_2),(ji150),(by first|rfl|(simp;done)|(simp only [← hji150] <;> (first|rfl|simp))|(simp [*];done)),H',⟨by have:=HK1.out;have:=HK2.out;omega⟩,⟨by (with_reducible repeat (first|apply Kd.R_alloc|apply Kd.R_drewN|apply Kd.R_drew));exact HO_7.out⟩,⟨by (with_reducible repeat (first|apply Kd.R_alloc|apply Kd.R_drewN|apply Kd.R_drew));exact HO_10.out⟩,⟨by (with_reducible repeat (first|apply kN_|apply kD_|apply kA_));exact BK337.out⟩,⟨by repeat (first|(with_reducible first|exact HB.out|apply bA_|apply bN_|apply bD_|refine bS_ ?_ GE337.out)|exact HB.out)⟩⟩
              ·
               rw [if_neg c152] at H;exact absurd H (by simp)
             ·
              rw [if_neg c151] at H;exact absurd H (by simp)
            ·
             rw [if_neg c149] at H;have c149b0 : decide (x11_2 < (((rd_T30 l0 0).f2).length : Int)) = false:=decide_eq_false c149;clear c149;obtain rfl:=Option.some.inj H;have p355 : 0≤(0 : Int):=(by omega)
             have q355 : 0 < (l0.length : Int):=od_ (by first|(with_reducible assumption)|assumption);obtain ⟨ad355,A355_2,c355_2,e355,hx355_0,hx355_1,hx355_2,hl355_2,hi355_2⟩:=at_T30 HR0.out 0 p355 q355;obtain rfl : ad338 = ad355:=(by injection e355)
             have qi355 : (0 < l0.length) = True:=eq_true (by omega);(try rw [show ((0 : Int)).toNat = 0 from rfl] at hx355_0);(try rw [show 0 * 3 = 0 from rfl] at hx355_0);(try rw [Addr.add_zero'] at hx355_0);(try rw [show ((0 : Int)).toNat = 0 from rfl] at hx355_1);(try rw [show 0 * 3 = 0 from rfl] at hx355_1);(try rw [Addr.add_zero'] at hx355_1);(try rw [show ((0 : Int)).toNat = 0 from rfl] at hx355_2);(try rw [show 0 * 3 = 0 from rfl] at hx355_2);(try rw [Addr.add_zero'] at hx355_2);replace hx355_0:=(HB.out.cell (bl_ w _ hx355_0)).trans hx355_0;replace hx355_1:=(HB.out.cell (bl_ w _ hx355_1)).trans hx355_1;replace hx355_2:=(HB.out.cell (bl_ w _ hx355_2)).trans hx355_2;have HR355_2:=am_ hi355_2;have HC355_2:=am_ hl355_2;clear hi355_2 hl355_2;replace p355:=eq_true p355;replace q355:=eq_true q355;have p356 : 0≤(0 : Int):=(by omega)
             have q356 : 0 < (l0.length : Int):=od_ (by first|(with_reducible assumption)|assumption);obtain ⟨ad356,A356_2,c356_2,e356,hx356_0,hx356_1,hx356_2,hl356_2,hi356_2⟩:=at_T30 HR0.out 0 p356 q356;obtain rfl : ad338 = ad356:=(by injection e356)
             have qi356 : (0 < l0.length) = True:=eq_true (by omega);(try rw [show ((0 : Int)).toNat = 0 from rfl] at hx356_0);(try rw [show 0 * 3 = 0 from rfl] at hx356_0);(try rw [Addr.add_zero'] at hx356_0);(try rw [show ((0 : Int)).toNat = 0 from rfl] at hx356_1);(try rw [show 0 * 3 = 0 from rfl] at hx356_1);(try rw [Addr.add_zero'] at hx356_1);(try rw [show ((0 : Int)).toNat = 0 from rfl] at hx356_2);(try rw [show 0 * 3 = 0 from rfl] at hx356_2);(try rw [Addr.add_zero'] at hx356_2);replace hx356_0:=(HB.out.cell (bl_ w _ hx356_0)).trans hx356_0;replace hx356_1:=(HB.out.cell (bl_ w _ hx356_1)).trans hx356_1;replace hx356_2:=(HB.out.cell (bl_ w _ hx356_2)).trans hx356_2;have HR356_2:=am_ hi356_2;have HC356_2:=am_ hl356_2;clear hi356_2 hl356_2;replace p356:=eq_true p356;replace q356:=eq_true q356;have ea_:=Option.some.inj (hx355_2.symm.trans hx356_2)
             injection ea_ with ea_ en_ ec_
             subst ea_;subst ec_;clear en_
             go_wp2
             go_ret
             exact ⟨_,by first|rfl|(simp [errW_none,errW_some] <;> rfl)|(simp only [← hji6];first|rfl|(simp [errW_none,errW_some] <;> rfl))|(simp [*,errW_none,errW_some] <;> rfl),by (with_reducible repeat (first|apply Kd.R_alloc|apply Kd.R_drewN|apply Kd.R_drew));exact HO_10.out,by repeat (first|(with_reducible first|exact HB.out|apply bA_|apply bN_|apply bD_|refine bS_ ?_ GE337.out)|exact HB.out)⟩
           ·
            rw [if_neg c148] at H;exact absurd H (by simp)
       ·
        rw [if_neg c14] at H;exact absurd H (by simp)
    ·
     rw [if_neg c8] at H;exact absurd H (by simp)
   ·
    rw [if_neg c7] at H;exact absurd H (by simp)
  ·
   rw [if_neg c5] at H;exact absurd H (by simp)
 ·
  rw [if_neg c4] at H;exact absurd H (by simp)
end Go.Proofs.Ytanpafadehnhlaa.Q
