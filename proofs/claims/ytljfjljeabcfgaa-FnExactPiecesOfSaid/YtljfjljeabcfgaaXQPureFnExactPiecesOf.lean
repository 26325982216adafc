-- Trimmed by a program.
import Derived.Test.YtljfjljeabcfgaaXQ0
import Derived.Test.YtljfjljeabcfgaaXQHSlab
import Derived.Test.YtljfjljeabcfgaaXQ8
import Derived.Test.YtljfjljeabcfgaaXQ1
import Derived.Test.YtljfjljeabcfgaaXQ4
import Derived.Test.YtljfjljeabcfgaaXQ2
import Derived.Test.YtljfjljeabcfgaaXQ3
import Derived.Test.YtljfjljeabcfgaaXQ12
import Derived.Test.YtljfjljeabcfgaaXQ10
import Derived.Test.YtljfjljeabcfgaaXQ9
import Derived.Test.YtljfjljeabcfgaaXQ11
import Derived.Test.YtljfjljeabcfgaaXQHSquare
import Derived.Test.YtljfjljeabcfgaaXQOpn
import Derived.Test.YtljfjljeabcfgaaXQ5
import Derived.Test.YtljfjljeabcfgaaXQ6
import Derived.Test.YtljfjljeabcfgaaXQ14
import Derived.Test.YtljfjljeabcfgaaXQ13
import Derived.Test.YtljfjljeabcfgaaXQPcA
import Derived.Test.YtljfjljeabcfgaaXQ7
import Derived.Test.YtljfjljeabcfgaaXQ16
import Derived.Test.YtljfjljeabcfgaaXQHInts
import Derived.Test.YtljfjljeabcfgaaXQHIntRows
import Derived.Test.YtljfjljeabcfgaaXQLawPiecesOf
namespace Go.Proofs.Ytljfjljeabcfgaa.Q
open Go.RowKit Go.Proofs.YtljfjljeabcfgaaW.PrintWords Go.Proofs.YtljfjljeabcfgaaW.PrintLast Go.Proofs.YtljfjljeabcfgaaW.PrintMore
theorem w64 {x : Int} (h0 : -9223372036854775808 ≤ x) (h1 : x ≤ 9223372036854775807) : wrap64 x = x := by
 unfold wrap64
 omega
theorem w64_succ {i : Nat} (h : i ≤ 4611686018427387904) : wrap64 ((i : Int) + 1) = ((i + 1 : Nat) : Int) := by
 rw [w64 (by omega) (by omega)]
 omega
theorem rd_get {l : List Int} {i : Nat} (h : i < l.length) : rd l (i : Int) = l[i] := by
 unfold rd
 rw [Int.toNat_natCast,List.getD_eq_getElem?_getD,List.getElem?_eq_getElem h]
 rfl
theorem ge0 (i : Nat) : (0 : Int) ≤ (i : Int) := Int.natCast_nonneg i
theorem Ev.ite_pos {α : Type} {c : Prop} [Decidable c] {f g : Nat → Option α} {r : α} (hc : c) (h : Ev f r) : Ev (fun k => if c then f k else g k) r := Ev.congr (fun _ => if_pos hc) h
theorem Ev.ite_neg {α : Type} {c : Prop} [Decidable c] {f g : Nat → Option α} {r : α} (hc : ¬ c) (h : Ev g r) : Ev (fun k => if c then f k else g k) r := Ev.congr (fun _ => if_neg hc) h
theorem Ev.call {α β : Type} {o : Option α} {f : Nat → α → Option β} {a : α} {r : β} (h : o = some a) (k : Ev (fun n => f n a) r) : Ev (fun n => o.bind (f n)) r := Ev.bind (g := fun _ => o) ⟨0, fun _ _ => h⟩ k
theorem Ev.const {α : Type} {o : Option α} {r : α} (h : o = some r) : Ev (fun _ => o) r := ⟨0, fun _ _ => h⟩
theorem Ev.eq_ {α : Type} {g : Nat → Option α} {a b : α} (h : Ev g a) (e : a = b) : Ev g b := e ▸ h
def loopV {σ ρ : Type} (c : Nat → σ → Bool) (f : Nat → σ → σ) (e : Nat → σ → ρ) (z : σ → ρ) : Nat → Nat → σ → ρ
 | 0,_,s=>z s
 | d + 1,i,s=>if c i s = true then loopV c f e z d (i + 1) (f i s) else e i s
theorem Ev.loop {σ ρ : Type} {L : Nat → σ → Nat → Option ρ} (n : Nat) (c : Nat → σ → Bool) (f : Nat → σ → σ) (e : Nat → σ → ρ) (z : σ → ρ) (Inv : Nat → σ → Prop)
  (hgo : ∀ i s,i < n → Inv i s → c i s = true → Inv (i + 1) (f i s) ∧ ∀ r,Ev (fun k=>L k (f i s) (i + 1)) r → Ev (fun k=>L k s i) r)
  (hout : ∀ i s,i < n → Inv i s → c i s = false → Ev (fun k=>L k s i) (e i s))
  (hend : ∀ s,Inv n s → Ev (fun k=>L k s n) (z s)) :
  ∀ d i s,i + d = n → Inv i s → Ev (fun k=>L k s i) (loopV c f e z d i s):=by
 intro d
 induction d with
 | zero =>
  intro i s hi hs
  obtain rfl : i = n:=by omega
  exact hend s hs
 | succ d ih =>
  intro i s hi hs
  unfold loopV
  by_cases hc : c i s = true
  ·
   rw [if_pos hc]
   obtain ⟨h1,h2⟩:=hgo i s (by omega) hs hc
   exact h2 _ (ih (i + 1) (f i s) (by omega) h1)
  ·
   rw [if_neg hc]
   exact hout i s (by omega) hs (by simpa using hc)
theorem loopV_const {σ ρ : Type} {c : Nat → σ → Bool} {f : Nat → σ → σ} {e : Nat → σ → ρ} {z : σ → ρ} {r : ρ} (hc : ∀ i s, c i s = true) (hz : ∀ s, z s = r) : ∀ d i s, loopV c f e z d i s = r
 | 0,_,s=>hz s
 | d + 1,i,s=>by
  unfold loopV
  rw [if_pos (hc i s)]
  exact loopV_const hc hz d (i + 1) (f i s)
theorem Ev.run {σ ρ : Type} {L : Nat → σ → Nat → Option ρ} (n : Nat) (f : Nat → σ → σ) (Inv : Nat → σ → Prop) (r : ρ)
  (hgo : ∀ i s,i < n → Inv i s → Inv (i + 1) (f i s) ∧ ∀ r,Ev (fun k=>L k (f i s) (i + 1)) r → Ev (fun k=>L k s i) r)
  (hend : ∀ s,Inv n s → Ev (fun k=>L k s n) r) {d i : Nat} {s : σ} (hi : i + d = n) (hs : Inv i s) : Ev (fun k=>L k s i) r:=by
 have h:=Ev.loop (L:=L) n (fun _ _=>true) f (fun _ _=>r) (fun _=>r) Inv (fun i s hi hs _=>hgo i s hi hs) (fun _ _ _ _ h=>by cases h) hend d i s hi hs
 rwa [loopV_const (fun _ _=>rfl) (fun _=>rfl)] at h
theorem Ev.all {α ρ : Type} {L : Nat → Nat → Option ρ} (l : List α) (p : α → Bool) (re rf : ρ)
  (hgo : ∀ i (h : i < l.length),p l[i] = true → ∀ r,Ev (fun k=>L k (i + 1)) r → Ev (fun k=>L k i) r)
  (hout : ∀ i (h : i < l.length),p l[i] = false → Ev (fun k=>L k i) rf)
  (hend : Ev (fun k=>L k l.length) re) : Ev (fun k=>L k 0) (if l.all p = true then re else rf):=by
 have key : ∀ d i,i + d = l.length → Ev (fun k=>L k i) (if (l.drop i).all p = true then re else rf):=by
  intro d
  induction d with
  | zero =>
   intro i hi
   obtain rfl : i = l.length:=by omega
   simpa using hend
  | succ d ih =>
   intro i hi
   have hlt : i < l.length:=by omega
   rw [List.drop_eq_getElem_cons hlt,List.all_cons]
   by_cases hp : p l[i] = true
   ·
    rw [hp,Bool.true_and]
    exact hgo i hlt hp _ (ih (i + 1) (by omega))
   ·
    have hp' : p l[i] = false:=by simpa using hp
    rw [hp',Bool.false_and,if_neg (by decide)]
    exact hout i hlt hp'
 have h:=key l.length 0 (by omega)
 simpa using h
theorem take_set_succ {α : Type} {s l : List α} {i : Nat} (hl : s.length = l.length) (hi : i < l.length) (ht : s.take i = l.take i) : (s.set i l[i]).take (i + 1) = l.take (i + 1) := by
 rw [List.take_succ_eq_append_getElem (by simpa [hl] using hi),List.take_succ_eq_append_getElem hi,List.take_set_of_le (Nat.le_refl _),ht]
 simp
def findFrom {α : Type} (p : α → Bool) : Nat → List α → Int
 | _,[]=>-1
 | i,x :: xs=>if p x = true then (i : Int) else findFrom p (i + 1) xs
theorem findFrom_ge {α : Type} (p : α → Bool) : ∀ (l : List α) (i : Nat), decide (findFrom p i l ≥ 0) = l.any p
 | [],i=>by simp [findFrom]
 | x :: xs,i=>by
  unfold findFrom
  by_cases hp : p x = true
  · simp [hp]
  · simp [hp,findFrom_ge p xs (i + 1)]
theorem Ev.find {α : Type} {L : Nat → Nat → Option Int} (l : List α) (p : α → Bool)
  (hgo : ∀ i (h : i < l.length),p l[i] = false → ∀ r,Ev (fun k=>L k (i + 1)) r → Ev (fun k=>L k i) r)
  (hout : ∀ i (h : i < l.length),p l[i] = true → Ev (fun k=>L k i) (i : Int))
  (hend : Ev (fun k=>L k l.length) (-1)) : Ev (fun k=>L k 0) (findFrom p 0 l):=by
 have key : ∀ d i,i + d = l.length → Ev (fun k=>L k i) (findFrom p i (l.drop i)):=by
  intro d
  induction d with
  | zero =>
   intro i hi
   obtain rfl : i = l.length:=by omega
   simpa [findFrom] using hend
  | succ d ih =>
   intro i hi
   have hlt : i < l.length:=by omega
   rw [List.drop_eq_getElem_cons hlt]
   unfold findFrom
   by_cases hp : p l[i] = true
   ·
    rw [if_pos hp]
    exact hout i hlt hp
   ·
    have hp' : p l[i] = false:=by simpa using hp
    rw [if_neg hp]
    exact hgo i hlt hp' _ (ih (i + 1) (by omega))
 simpa using key l.length 0 (by omega)
end Go.Proofs.Ytljfjljeabcfgaa.Q

namespace Go.Proofs.Ytljfjljeabcfgaa.Q
open Go.RowKit Go.Proofs.YtljfjljeabcfgaaW.PrintWords Go.Proofs.YtljfjljeabcfgaaW.PrintLast Go.Proofs.YtljfjljeabcfgaaW.PrintMore
set_option linter.unusedSimpArgs false
abbrev Sl := S50
def slabOf (x : S64) : S50 := ⟨x.f0, x.f1, x.f2, x.f3⟩
theorem rdL_get {l : List S64} {i : Nat} (h : i < l.length) : rd_T64 l (i : Int) = l[i] := by
 unfold rd_T64
 rw [Int.toNat_natCast,List.getD_eq_getElem?_getD,List.getElem?_eq_getElem h]
 rfl
theorem rdI_get {l : List S50} {i : Nat} (h : i < l.length) : rd_T50 l (i : Int) = l[i] := by
 unfold rd_T50
 rw [Int.toNat_natCast,List.getD_eq_getElem?_getD,List.getElem?_eq_getElem h]
 rfl
theorem toSlabs (l : List S64) (h : l.length ≤ 35184372088832) : Ev (fun k => laws_toSlabS.f k l) (l.map slabOf) := by
 unfold laws_toSlabS.f
 refine Ev.ite_pos (ge0 _) (Ev.ite_pos (by rw [Int.toNat_natCast];omega) ?_)
 refine Ev.run (L:=fun k s (i : Nat)=>laws_toSlabS.l0 k l s i) l.length (fun i s=>s.set i (slabOf (rd_T64 l (i : Int)))) (fun i s=>s.length = l.length ∧ s.take i = (l.map slabOf).take i) (l.map slabOf) ?_ ?_ (d:=l.length) (i:=0) (by omega) ⟨by simp,by simp⟩
 ·
  rintro i s hi ⟨h1,h2⟩
  refine ⟨⟨by simpa using h1,?_⟩,fun r hr=>Ev.step (fun k=>laws_toSlabS.l0.eq_2 _ _ _ _) ?_⟩
  ·
   show (s.set i (slabOf (rd_T64 l (i : Int)))).take (i + 1) = _
   rw [rdL_get hi,show slabOf l[i] = (l.map slabOf)[i]'(by simpa using hi) by simp]
   exact take_set_succ (by simpa using h1) (by simpa using hi) h2
  ·
   refine Ev.ite_pos (by omega) (Ev.ite_pos (ge0 _) (Ev.call rfl (Ev.ite_pos (by omega) ?_)))
   rw [w64_succ (by omega),Int.toNat_natCast]
   exact hr
 ·
  rintro s ⟨h1,h2⟩
  refine Ev.step (fun k=>laws_toSlabS.l0.eq_2 _ _ _ _) (Ev.ite_neg (by omega) ?_)
  rw [List.take_of_length_le (by omega),List.take_of_length_le (by simp)] at h2
  rw [h2]
  exact Ev.now _
theorem eqSlab_refl (a b c d : Int) : laws_eqSlab.f a b c d a b c d = some true := by simp [laws_eqSlab.f]
theorem eqSlabs (l : List S50) (h : l.length ≤ 4611686018427387904) : Ev (fun k => laws_eqSlabS.f k l l) true := by
 unfold laws_eqSlabS.f
 refine Ev.ite_pos rfl ?_
 refine Ev.run (L:=fun k (_ : Unit) (i : Nat)=>laws_eqSlabS.l0 k l l i) l.length (fun _ s=>s) (fun _ _=>True) true ?_ ?_ (d:=l.length) (i:=0) (s:=()) (by omega) trivial
 ·
  rintro i s hi _
  refine ⟨trivial,fun r hr=>Ev.step (fun k=>laws_eqSlabS.l0.eq_2 _ _ _ _) ?_⟩
  refine Ev.ite_pos (by omega) (Ev.ite_pos (ge0 _) (Ev.ite_pos (by omega) (Ev.call (eqSlab_refl _ _ _ _) (Ev.ite_pos rfl ?_))))
  rw [w64_succ (by omega)]
  exact hr
 ·
  intro s _
  exact Ev.step (fun k=>laws_eqSlabS.l0.eq_2 _ _ _ _) (Ev.ite_neg (by omega) (Ev.now true))
theorem szSlabs (l : List S64) (n : Int) (h : l.length ≤ 9223372036854775807) (h0 : 0 ≤ n) (h1 : n ≤ 1048576) : laws_szSlabS.f l n = some (if n < l.length then -1 else n - l.length) := by
 unfold laws_szSlabS.f
 rw [w64 (by omega) (by omega)]
 by_cases hc : n < l.length
 · rw [if_pos (by omega),if_pos hc]
 · rw [if_neg (by omega),if_neg hc]
end Go.Proofs.Ytljfjljeabcfgaa.Q

namespace Go.Proofs.Ytljfjljeabcfgaa.Q
open Go.RowKit Go.Proofs.YtljfjljeabcfgaaW.PrintWords Go.Proofs.YtljfjljeabcfgaaW.PrintLast Go.Proofs.YtljfjljeabcfgaaW.PrintMore
def inB (a b c : Int) : Bool := decide (b ≤ a ∧ a ≤ c)
theorem within_val (a b c : Int) : impl_within.f a b c = some (inB a b c) := by
 unfold impl_within.f inB
 by_cases h : b≤a <;> simp [h]
theorem l00In_val (a b c : Int) : spec_l00In.f a b c = some (inB a b c) := by
 unfold spec_l00In.f inB
 by_cases h : b≤a <;> simp [h]
theorem inB_iff {a b c : Int} : inB a b c = true ↔ b ≤ a ∧ a ≤ c := by simp [inB]
end Go.Proofs.Ytljfjljeabcfgaa.Q

namespace Go.Proofs.Ytljfjljeabcfgaa.Q
open Go.RowKit Go.Proofs.YtljfjljeabcfgaaW.PrintWords Go.Proofs.YtljfjljeabcfgaaW.PrintLast Go.Proofs.YtljfjljeabcfgaaW.PrintMore
set_option linter.unusedVariables false
set_option linter.unusedSimpArgs false
abbrev Sq := S32
theorem rdQ (q : Sq) : rd_T32 [q] 0 = q := rfl
theorem one_pos (q : Sq) : (0 : Int) < (([q] : List Sq).length : Int) := by simp
def small (a : Int) : Prop := -128 ≤ a ∧ a ≤ 127
def smallS (s : Sl) : Prop := small s.f0 ∧ small s.f1 ∧ small s.f2 ∧ small s.f3
theorem small_w {a : Int} (h : small a) : wrap64 a = a := w64 (by have := h.1; omega) (by have := h.2; omega)
theorem i8w {a : Int} (h : small a) : IntKind.i8.wrap a = a := by
 obtain ⟨h0,h1⟩:=h
 unfold IntKind.wrap
 have e : (2 ^ IntKind.i8.bits : Int) = 256:=rfl
 have e2 : (2 ^ (IntKind.i8.bits - 1) : Int) = 128:=rfl
 have e3 : IntKind.i8.signed = true:=rfl
 rw [e,e2,e3]
 simp only [Bool.true_and]
 by_cases hn : 0≤a
 · rw [Int.emod_eq_of_lt hn (by omega),if_neg (by simp;omega)]
 ·
  have hm : a % 256 = a + 256:=by omega
  rw [hm,if_pos (by simp;omega)]
  omega
def lies (W H : Int) (s : Sl) : Bool := decide (0 ≤ s.f0 ∧ 0 ≤ s.f1 ∧ 1 ≤ s.f2 ∧ 1 ≤ s.f3 ∧ s.f0 + s.f2 ≤ W ∧ s.f1 + s.f3 ≤ H)
def before (a b : Sl) : Bool := decide (a.f1 < b.f1 ∨ a.f1 = b.f1 ∧ a.f0 < b.f0)
def inside (y x : Int) (s : Sl) : Bool := decide (s.f0 ≤ x ∧ x < s.f0 + s.f2 ∧ s.f1 ≤ y ∧ y < s.f1 + s.f3)
def meets (s t : Sl) : Bool := decide (s.f0 < t.f0 + t.f2 ∧ t.f0 < s.f0 + s.f2 ∧ s.f1 < t.f1 + t.f3 ∧ t.f1 < s.f1 + s.f3)
theorem lies_val (q : Sq) (s : Sl) (hq : small q.f0 ∧ small q.f1) (hs : smallS s) : spec_l01Lies.f [q] s.f0 s.f1 s.f2 s.f3 = some (lies q.f0 q.f1 s) := by
 obtain ⟨h0,h1,h2,h3⟩:=hs
 unfold spec_l01Lies.f lies
 rw [rdQ,small_w h0,small_w h1,small_w h2,small_w h3,small_w hq.1,small_w hq.2,w64 (x:=s.f0 + s.f2) (by have:=h0.1;have:=h2.1;omega) (by have:=h0.2;have:=h2.2;omega),w64 (x:=s.f1 + s.f3) (by have:=h1.1;have:=h3.1;omega) (by have:=h1.2;have:=h3.2;omega)]
 by_cases c0 : s.f0 < 0
 · rw [if_pos c0,decide_eq_false (by omega)]
 ·
  rw [if_neg c0]
  by_cases c1 : s.f1 < 0
  · rw [if_pos c1,decide_eq_false (by omega)]
  ·
   rw [if_neg c1]
   by_cases c2 : s.f2 < 1
   · rw [if_pos c2,decide_eq_false (by omega)]
   ·
    rw [if_neg c2]
    by_cases c3 : s.f3 < 1
    · rw [if_pos c3,decide_eq_false (by omega)]
    ·
     rw [if_neg c3,if_pos (one_pos q)]
     by_cases c4 : s.f0 + s.f2≤q.f0
     ·
      rw [if_pos c4]
      congr 1
      exact decide_eq_decide.2 ⟨fun h=>⟨by omega,by omega,by omega,by omega,c4,h⟩,fun h=>h.2.2.2.2.2⟩
     · rw [if_neg c4,decide_eq_false (by omega)]
theorem before_val (a b : Sl) : spec_l01Before.f a.f0 a.f1 a.f2 a.f3 b.f0 b.f1 b.f2 b.f3 = some (before a b) := by
 unfold spec_l01Before.f before
 by_cases h : a.f1 < b.f1
 · rw [if_pos h,decide_eq_true (Or.inl h)]
 ·
  rw [if_neg h]
  by_cases h2 : a.f1 = b.f1
  ·
   rw [if_pos h2]
   congr 1
   exact decide_eq_decide.2 ⟨fun h3=>Or.inr ⟨h2,h3⟩,fun h3=>by rcases h3 with h3|h3 <;> omega⟩
  · rw [if_neg h2,decide_eq_false (by omega)]
theorem edge_val (a : Int) : spec_l01Edge.f a = some (inB a 1 12) := by
 unfold spec_l01Edge.f
 rw [l00In_val]
 rfl
def layX (i y : Int) : Nat → Int → List Int → List Int × Bool
 | 0,_,g=>(g,true)
 | d + 1,x,g=>if rd g (y * 12 + x) = 0 then layX i y d (x + 1) (g.set (y * 12 + x).toNat (i + 1)) else (g,false)
def layY (i x0 : Int) (w : Nat) : Nat → Int → List Int → List Int × Bool
 | 0,_,g=>(g,true)
 | d + 1,y,g=>if (layX i y w x0 g).2 = true then layY i x0 w d (y + 1) (layX i y w x0 g).1 else ((layX i y w x0 g).1,false)
def laySlab (i : Int) (s : Sl) (g : List Int) : List Int × Bool := layY i s.f0 s.f2.toNat s.f3.toNat s.f1 g
def rdS (l : List Sl) (i : Int) : Sl := rd_T50 l i
def layAll (W H : Int) (l : List Sl) : Nat → Nat → List Int → List Int × Bool
 | 0,_,g=>(g,true)
 | d + 1,i,g=>if (lies W H (rdS l i) && (decide (i = 0) || before (rdS l ((i : Int) - 1)) (rdS l i))) = true then
   (if (laySlab i (rdS l i) g).2 = true then layAll W H l d (i + 1) (laySlab i (rdS l i) g).1 else ((laySlab i (rdS l i) g).1,false)) else (g,false)
def grid0 : List Int := List.replicate 144 0
def layV (q : Sq) : List Int × Bool := if (inB q.f0 1 12 && inB q.f1 1 12 && decide (q.f2.length ≤ 60)) = true then layAll q.f0 q.f1 q.f2 q.f2.length 0 grid0 else (grid0, false)
theorem layX_len (i y : Int) : ∀ d x g, (layX i y d x g).1.length = g.length
 | 0,_,_=>rfl
 | d + 1,x,g=>by
  unfold layX
  split
  · rw [layX_len i y d,List.length_set]
  · rfl
theorem layY_len (i x0 : Int) (w : Nat) : ∀ d y g, (layY i x0 w d y g).1.length = g.length
 | 0,_,_=>rfl
 | d + 1,y,g=>by
  unfold layY
  split
  · rw [layY_len i x0 w d,layX_len]
  · exact layX_len _ _ _ _ _
theorem layAll_len (W H : Int) (l : List Sl) : ∀ d i g, (layAll W H l d i g).1.length = g.length
 | 0,_,_=>rfl
 | d + 1,i,g=>by
  unfold layAll
  split
  ·
   split
   ·
    rw [layAll_len W H l d]
    exact layY_len _ _ _ _ _ _
   · exact layY_len _ _ _ _ _ _
  · rfl
theorem layV_len (q : Sq) : (layV q).1.length = 144 := by
 unfold layV
 split
 ·
  rw [layAll_len]
  simp [grid0]
 · simp [grid0]
def smallQ (q : Sq) : Prop := small q.f0 ∧ small q.f1 ∧ q.f2.length ≤ 1048576 ∧ ∀ s ∈ q.f2, smallS s
theorem smallQ.at {q : Sq} (h : smallQ q) {i : Nat} (hi : i < q.f2.length) : smallS (rdS q.f2 (i : Int)) := by
 unfold rdS
 rw [rdI_get hi]
 exact h.2.2.2 _ (List.getElem_mem _)
theorem lay2 (q : Sq) (i : Nat) (y : Int) (g0 : List Int) (s0 s1 s2 s3 : Int) (r : List Int × Bool) (hi : i ≤ 1048576) (hg0 : g0.length = 144) (hy : 0 ≤ y ∧ y < 12) (hs : small s0 ∧ 0 ≤ s0 ∧ 1 ≤ s2 ∧ s0 + s2 ≤ 12) :
  ∀ (d : Nat) (x : Int) (g : List Int),0≤x → x + (d : Int) = s0 + s2 → g.length = 144 →
   ((layX i y d x g).2 = true → Ev (fun k=>spec_l01Lay.l1 k [q] (i : Int) (y + 1) g0 (layX i y d x g).1 s0 s1 s2 s3) r) →
   ((layX i y d x g).2 = false → r = ((layX i y d x g).1,false)) →
   Ev (fun k=>spec_l01Lay.l2 k [q] (i : Int) y x g0 g s0 s1 s2 s3) r:=by
 obtain ⟨hs0,hs1,hs2,hs3⟩:=hs
 have ew : IntKind.i8.wrap (s0 + s2) = s0 + s2:=i8w ⟨by omega,by omega⟩
 intro d
 induction d with
 | zero =>
  intro x g hx hd hg h1 h2
  refine Ev.step (fun k=>spec_l01Lay.l2.eq_2 _ _ _ _ _ _ _ _ _ _ _) ?_
  rw [ew,i8w (a:=y + 1) ⟨by omega,by omega⟩]
  exact Ev.ite_neg (by omega) (h1 rfl)
 | succ d ih =>
  intro x g hx hd hg h1 h2
  refine Ev.step (fun k=>spec_l01Lay.l2.eq_2 _ _ _ _ _ _ _ _ _ _ _) ?_
  rw [ew,i8w (a:=x + 1) ⟨by omega,by omega⟩]
  refine Ev.ite_pos (by omega) (Ev.ite_pos hy.1 (Ev.ite_pos hy.2 (Ev.ite_pos hx (Ev.ite_pos (by omega) (Ev.ite_pos (by omega) ?_)))))
  by_cases hc : rd g (y * 12 + x) = 0
  ·
   have e : layX i y (d + 1) x g = layX i y d (x + 1) (g.set (y * 12 + x).toNat (i + 1)):=by rw [layX,if_pos hc]
   rw [e] at h1 h2
   rw [w64_succ (i:=i) (by omega),show ((i + 1 : Nat) : Int) = (i : Int) + 1 by omega]
   exact Ev.ite_pos hc (ih (x + 1) _ (by omega) (by omega) (by rw [List.length_set];exact hg) h1 h2)
  ·
   have e : layX i y (d + 1) x g = (g,false):=by rw [layX,if_neg hc]
   rw [e] at h2
   rw [h2 rfl]
   exact Ev.ite_neg hc (Ev.ite_pos hg (Ev.ite_pos hg0 (Ev.now _)))
theorem lay1 (q : Sq) (i : Nat) (g0 : List Int) (s : Sl) (r : List Int × Bool) (hi : i ≤ 1048576) (hg0 : g0.length = 144) (hl : lies 12 12 s = true) :
  ∀ (d : Nat) (y : Int) (g : List Int),0≤y → y + (d : Int) = s.f1 + s.f3 → g.length = 144 →
   ((layY i s.f0 s.f2.toNat d y g).2 = true → Ev (fun k=>spec_l01Lay.l0 k [q] ((i + 1 : Nat) : Int) g0 (layY i s.f0 s.f2.toNat d y g).1) r) →
   ((layY i s.f0 s.f2.toNat d y g).2 = false → r = ((layY i s.f0 s.f2.toNat d y g).1,false)) →
   Ev (fun k=>spec_l01Lay.l1 k [q] (i : Int) y g0 g s.f0 s.f1 s.f2 s.f3) r:=by
 have hl':=of_decide_eq_true hl
 have ew : IntKind.i8.wrap (s.f1 + s.f3) = s.f1 + s.f3:=i8w ⟨by omega,by omega⟩
 intro d
 induction d with
 | zero =>
  intro y g hy hd hg h1 h2
  refine Ev.step (fun k=>spec_l01Lay.l1.eq_2 _ _ _ _ _ _ _ _ _ _) ?_
  rw [ew,w64_succ (i:=i) (by omega)]
  exact Ev.ite_neg (by omega) (h1 rfl)
 | succ d ih =>
  intro y g hy hd hg h1 h2
  refine Ev.step (fun k=>spec_l01Lay.l1.eq_2 _ _ _ _ _ _ _ _ _ _) ?_
  rw [ew]
  refine Ev.ite_pos (by omega) (lay2 q i y g0 s.f0 s.f1 s.f2 s.f3 r hi hg0 ⟨hy,by omega⟩ ⟨⟨by omega,by omega⟩,by omega,by omega,by omega⟩ s.f2.toNat s.f0 g (by omega) (by omega) hg ?_ ?_)
  ·
   intro hx
   have e : layY i s.f0 s.f2.toNat (d + 1) y g = layY i s.f0 s.f2.toNat d (y + 1) (layX i y s.f2.toNat s.f0 g).1:=by rw [layY,if_pos hx]
   rw [e] at h1 h2
   exact ih (y + 1) _ (by omega) (by omega) (by rw [layX_len];exact hg) h1 h2
  ·
   intro hx
   have e : layY i s.f0 s.f2.toNat (d + 1) y g = ((layX i y s.f2.toNat s.f0 g).1,false):=by rw [layY,if_neg (by simp [hx])]
   rw [e] at h2
   exact h2 rfl
theorem lay0 (q : Sq) (g0 : List Int) (hq : smallQ q) (hW : q.f0 ≤ 12) (hH : q.f1 ≤ 12) (hg0 : g0.length = 144) :
  ∀ (d i : Nat) (g : List Int),i + d = q.f2.length → g.length = 144 → Ev (fun k=>spec_l01Lay.l0 k [q] (i : Int) g0 g) (layAll q.f0 q.f1 q.f2 d i g):=by
 obtain ⟨q0,q1,q2,q3⟩:=hq
 intro d
 induction d with
 | zero =>
  intro i g hi hg
  refine Ev.step (fun k=>spec_l01Lay.l0.eq_2 _ _ _ _ _) ?_
  rw [rdQ]
  exact Ev.ite_pos (one_pos q) (Ev.ite_neg (by omega) (Ev.ite_pos hg (Ev.ite_pos hg0 (Ev.now _))))
 | succ d ih =>
  intro i g hi hg
  have hs:=smallQ.at ⟨q0,q1,q2,q3⟩ (show i < q.f2.length by omega)
  have hv:=lies_val q (rdS q.f2 (i : Int)) ⟨q0,q1⟩ hs
  refine Ev.step (fun k=>spec_l01Lay.l0.eq_2 _ _ _ _ _) ?_
  rw [rdQ]
  refine Ev.ite_pos (one_pos q) (Ev.ite_pos (by omega) (Ev.ite_pos (by omega) (Ev.call hv ?_)))
  have no : layAll q.f0 q.f1 q.f2 (d + 1) i g = (g,false) → Ev (fun k=>spec_l01Lay.j2 k [q] (i : Int) true g0 g (rdS q.f2 (i : Int)).f0 (rdS q.f2 (i : Int)).f1 (rdS q.f2 (i : Int)).f2 (rdS q.f2 (i : Int)).f3) (layAll q.f0 q.f1 q.f2 (d + 1) i g):=by
   intro e
   rw [e]
   exact Ev.step (fun k=>spec_l01Lay.j2.eq_2 _ _ _ _ _ _ _ _ _ _) (Ev.ite_pos rfl (Ev.ite_pos hg (Ev.ite_pos hg0 (Ev.now _))))
  by_cases hl : lies q.f0 q.f1 (rdS q.f2 (i : Int)) = true
  ·
   refine Ev.ite_pos hl ?_
   have hl12 : lies 12 12 (rdS q.f2 (i : Int)) = true:=by
    have h:=of_decide_eq_true hl
    exact decide_eq_true (by omega)
   have h12:=of_decide_eq_true hl12
   have yes : (decide (i = 0) ||before (rdS q.f2 ((i : Int) - 1)) (rdS q.f2 (i : Int))) = true → Ev (fun k=>spec_l01Lay.j2 k [q] (i : Int) false g0 g (rdS q.f2 (i : Int)).f0 (rdS q.f2 (i : Int)).f1 (rdS q.f2 (i : Int)).f2 (rdS q.f2 (i : Int)).f3) (layAll q.f0 q.f1 q.f2 (d + 1) i g):=by
    intro hb
    have e : layAll q.f0 q.f1 q.f2 (d + 1) i g = (if (laySlab i (rdS q.f2 i) g).2 = true then layAll q.f0 q.f1 q.f2 d (i + 1) (laySlab i (rdS q.f2 i) g).1 else ((laySlab i (rdS q.f2 i) g).1,false)):=by
     rw [layAll,if_pos (by rw [hl,hb];rfl)]
    rw [e]
    refine Ev.step (fun k=>spec_l01Lay.j2.eq_2 _ _ _ _ _ _ _ _ _ _) (Ev.ite_neg (by decide) ?_)
    refine lay1 q i g0 (rdS q.f2 (i : Int)) _ (by omega) hg0 hl12 (rdS q.f2 (i : Int)).f3.toNat (rdS q.f2 (i : Int)).f1 g (by omega) (by omega) hg ?_ ?_
    ·
     intro hx
     have hx' : (laySlab i (rdS q.f2 i) g).2 = true:=hx
     rw [if_pos hx']
     exact ih (i + 1) _ (by omega) (by rw [layY_len];exact hg)
    ·
     intro hx
     have hx' : ¬ (laySlab i (rdS q.f2 i) g).2 = true:=by simp [show (laySlab i (rdS q.f2 i) g).2 = false from hx]
     rw [if_neg hx']
     rfl
   by_cases h0 : (i : Int) > 0
   ·
    rw [w64 (x:=(i : Int) - 1) (by omega) (by omega)]
    refine Ev.ite_pos h0 (Ev.ite_pos (by omega) (Ev.ite_pos (by omega) (Ev.call (before_val (rdS q.f2 ((i : Int) - 1)) (rdS q.f2 (i : Int))) ?_)))
    by_cases hb : before (rdS q.f2 ((i : Int) - 1)) (rdS q.f2 (i : Int)) = true
    ·
     rw [hb]
     exact yes (by rw [hb,Bool.or_true])
    ·
     have hb' : before (rdS q.f2 ((i : Int) - 1)) (rdS q.f2 (i : Int)) = false:=by simpa using hb
     rw [hb']
     exact no (by rw [layAll,if_neg (by rw [hl,hb'];simp;omega)])
   · exact Ev.ite_neg h0 (yes (by rw [decide_eq_true (show i = 0 by omega)];rfl))
  · exact Ev.ite_neg hl (no (by rw [layAll,if_neg (by rw [show lies q.f0 q.f1 (rdS q.f2 (i : Int)) = false by simpa using hl];simp)]))
theorem lay_val (q : Sq) (hq : smallQ q) : Ev (fun k => spec_l01Lay.f k [q]) (layV q) := by
 unfold spec_l01Lay.f
 have hz : arrZ 144 = grid0:=rfl
 have hz2 : grid0.length = 144:=by simp [grid0]
 rw [rdQ,small_w hq.1,small_w hq.2.1,hz]
 have no : layV q = (grid0,false) → Ev (fun k=>spec_l01Lay.j0 k [q] true grid0 grid0) (layV q):=by
  intro e
  rw [e]
  exact Ev.step (fun k=>spec_l01Lay.j0.eq_2 _ _ _ _ _) (Ev.ite_pos rfl (Ev.ite_pos hz2 (Ev.ite_pos hz2 (Ev.now _))))
 refine Ev.ite_pos (one_pos q) (Ev.call (edge_val _) ?_)
 by_cases h0 : inB q.f0 1 12 = true
 ·
  refine Ev.ite_pos h0 (Ev.call (edge_val _) ?_)
  by_cases h1 : inB q.f1 1 12 = true
  ·
   refine Ev.ite_pos h1 ?_
   by_cases h2 : (q.f2.length : Int) > 60
   ·
    rw [decide_eq_true h2]
    exact no (by unfold layV;rw [if_neg (by simp;intro _ _;omega)])
   ·
    rw [decide_eq_false h2]
    have e : layV q = layAll q.f0 q.f1 q.f2 q.f2.length 0 grid0:=by unfold layV;rw [if_pos (by rw [h0,h1];simp;omega)]
    rw [e]
    exact Ev.step (fun k=>spec_l01Lay.j0.eq_2 _ _ _ _ _) (Ev.ite_neg (by decide) (lay0 q grid0 hq (inB_iff.1 h0).2 (inB_iff.1 h1).2 hz2 q.f2.length 0 grid0 (by omega) hz2))
  · exact Ev.ite_neg h1 (no (by unfold layV;rw [if_neg (by simp [h1])]))
 · exact Ev.ite_neg h0 (no (by unfold layV;rw [if_neg (by simp [h0])]))
end Go.Proofs.Ytljfjljeabcfgaa.Q

namespace Go.Proofs.Ytljfjljeabcfgaa.Q
open Go.RowKit Go.Proofs.YtljfjljeabcfgaaW.PrintWords Go.Proofs.YtljfjljeabcfgaaW.PrintLast Go.Proofs.YtljfjljeabcfgaaW.PrintMore
set_option linter.unusedVariables false
set_option linter.unusedSimpArgs false
def cellAt (g : List Int) (y x : Int) : Int := rd g (y * 12 + x)
theorem rd_set_if {g : List Int} {i j : Int} (hi : 0 ≤ i) (hj : 0 ≤ j) (hl : i < g.length) (v : Int) : rd (g.set i.toNat v) j = if j = i then v else rd g j := by
 obtain ⟨n,rfl⟩:=Int.eq_ofNat_of_zero_le hi
 obtain ⟨m,rfl⟩:=Int.eq_ofNat_of_zero_le hj
 unfold rd
 simp only [Int.toNat_natCast,List.getD_eq_getElem?_getD,List.getElem?_set]
 by_cases h : m = n
 ·
  subst h
  rw [if_pos rfl,if_pos rfl,if_pos (by omega)]
  rfl
 · rw [if_neg (fun e=>h e.symm),if_neg (by omega)]
theorem cell_set {g : List Int} {y x y' x' : Int} (hg : g.length = 144) (hy : 0 ≤ y ∧ y < 12) (hx : 0 ≤ x ∧ x < 12) (hy' : 0 ≤ y' ∧ y' < 12) (hx' : 0 ≤ x' ∧ x' < 12) (v : Int) : cellAt (g.set (y * 12 + x).toNat v) y' x' = if y' = y ∧ x' = x then v else cellAt g y' x' := by
 unfold cellAt
 rw [rd_set_if (by omega) (by omega) (by omega)]
 by_cases h : y' = y ∧ x' = x
 · rw [if_pos h,if_pos (by omega)]
 · rw [if_neg h,if_neg (by omega)]
theorem layX_spec (i y : Int) (hi : 0 ≤ i) (hy : 0 ≤ y ∧ y < 12) : ∀ (d : Nat) (x : Int) (g : List Int), 0 ≤ x → x + (d : Int) ≤ 12 → g.length = 144 →
  ((layX i y d x g).2 = true ↔ ∀ x',x≤x' → x' < x + d → cellAt g y x' = 0) ∧
  ((layX i y d x g).2 = true → ∀ y' x',0≤y' ∧ y' < 12 → 0≤x' ∧ x' < 12 → cellAt (layX i y d x g).1 y' x' = if y' = y ∧ x≤x' ∧ x' < x + d then i + 1 else cellAt g y' x')
 | 0,x,g,hx,hd,hg=>by
  refine ⟨⟨fun _ x' h1 h2=>by omega,fun _=>rfl⟩,fun _ y' x' _ _=>?_⟩
  rw [if_neg (by omega)]
  rfl
 | d + 1,x,g,hx,hd,hg=>by
  unfold layX
  by_cases hc : rd g (y * 12 + x) = 0
  ·
   rw [if_pos hc]
   obtain ⟨h1,h2⟩:=layX_spec i y hi hy d (x + 1) (g.set (y * 12 + x).toNat (i + 1)) (by omega) (by omega) (by rw [List.length_set];exact hg)
   refine ⟨⟨fun h x' a b=>?_,fun h=>h1.2 fun x' a b=>?_⟩,fun h y' x' hy' hx'=>?_⟩
   ·
    by_cases e : x' = x
    · rw [e];exact hc
    ·
     have:=h1.1 h x' (by omega) (by omega)
     rwa [cell_set hg hy (by omega) hy (by omega),if_neg (by omega)] at this
   ·
    rw [cell_set hg hy (by omega) hy (by omega),if_neg (by omega)]
    exact h x' (by omega) (by omega)
   ·
    rw [h2 h y' x' hy' hx',cell_set hg hy (by omega) hy' hx']
    by_cases e : y' = y ∧ x' = x
    · rw [if_pos e,if_neg (by omega),if_pos (by omega)]
    ·
     rw [if_neg e]
     by_cases e2 : y' = y ∧ x + 1≤x' ∧ x' < x + 1 + (d : Int)
     · rw [if_pos e2,if_pos (by omega)]
     · rw [if_neg e2,if_neg (by omega)]
  ·
   rw [if_neg hc]
   refine ⟨⟨fun h=>(by cases h),fun h=>absurd (h x (by omega) (by omega)) hc⟩,fun h=>(by cases h)⟩
theorem layY_spec (i x0 : Int) (w : Nat) (hi : 0 ≤ i) (hx0 : 0 ≤ x0) (hw : x0 + (w : Int) ≤ 12) : ∀ (d : Nat) (y : Int) (g : List Int), 0 ≤ y → y + (d : Int) ≤ 12 → g.length = 144 →
  ((layY i x0 w d y g).2 = true ↔ ∀ y' x',y≤y' → y' < y + d → x0≤x' → x' < x0 + w → cellAt g y' x' = 0) ∧
  ((layY i x0 w d y g).2 = true → ∀ y' x',0≤y' ∧ y' < 12 → 0≤x' ∧ x' < 12 → cellAt (layY i x0 w d y g).1 y' x' = if (y≤y' ∧ y' < y + d) ∧ x0≤x' ∧ x' < x0 + w then i + 1 else cellAt g y' x')
 | 0,y,g,hy,hd,hg=>by
  refine ⟨⟨fun _ y' x' h1 h2=>by omega,fun _=>rfl⟩,fun _ y' x' _ _=>?_⟩
  rw [if_neg (by omega)]
  rfl
 | d + 1,y,g,hy,hd,hg=>by
  unfold layY
  obtain ⟨a1,a2⟩:=layX_spec i y hi ⟨hy,by omega⟩ w x0 g hx0 hw hg
  by_cases hc : (layX i y w x0 g).2 = true
  ·
   rw [if_pos hc]
   have a3:=a1.1 hc
   have a4:=a2 hc
   obtain ⟨h1,h2⟩:=layY_spec i x0 w hi hx0 hw d (y + 1) (layX i y w x0 g).1 (by omega) (by omega) (by rw [layX_len];exact hg)
   refine ⟨⟨fun h y' x' b1 b2 b3 b4=>?_,fun h=>h1.2 fun y' x' b1 b2 b3 b4=>?_⟩,fun h y' x' hy' hx'=>?_⟩
   ·
    by_cases e : y' = y
    · rw [e];exact a3 x' b3 b4
    ·
     have:=h1.1 h y' x' (by omega) (by omega) b3 b4
     rwa [a4 y' x' (by omega) (by omega),if_neg (by omega)] at this
   ·
    rw [a4 y' x' (by omega) (by omega),if_neg (by omega)]
    exact h y' x' (by omega) (by omega) b3 b4
   ·
    rw [h2 h y' x' hy' hx',a4 y' x' hy' hx']
    by_cases e : y' = y ∧ x0≤x' ∧ x' < x0 + (w : Int)
    · rw [if_pos e,if_neg (by omega),if_pos (by omega)]
    ·
     rw [if_neg e]
     by_cases e2 : (y + 1≤y' ∧ y' < y + 1 + (d : Int)) ∧ x0≤x' ∧ x' < x0 + (w : Int)
     · rw [if_pos e2,if_pos (by omega)]
     · rw [if_neg e2,if_neg (by omega)]
  ·
   rw [if_neg hc]
   refine ⟨⟨fun h=>(by cases h),fun h=>absurd (a1.2 fun x' b1 b2=>h y x' (by omega) (by omega) b1 b2) hc⟩,fun h=>(by cases h)⟩
def coverAt (l : List Sl) (y x : Int) : Int := findFrom (inside y x) 0 l
theorem findFrom_snoc {α : Type} (p : α → Bool) (a : α) : ∀ (l : List α) (i : Nat), findFrom p i (l ++ [a]) = if findFrom p i l = -1 then (if p a = true then ((i + l.length : Nat) : Int) else -1) else findFrom p i l
 | [],i=>by simp [findFrom]
 | x :: xs,i=>by
  have e1 : findFrom p i (x :: xs) = if p x = true then (i : Int) else findFrom p (i + 1) xs:=rfl
  show (if p x = true then (i : Int) else findFrom p (i + 1) (xs ++ [a])) = _
  rw [e1]
  by_cases h : p x = true
  · rw [if_pos h,if_pos h,if_neg (by omega)]
  · rw [if_neg h,if_neg h,findFrom_snoc p a xs (i + 1),List.length_cons,show i + 1 + xs.length = i + (xs.length + 1) by omega]
theorem findFrom_none {α : Type} (p : α → Bool) : ∀ (l : List α) (i : Nat), findFrom p i l = -1 ↔ ∀ a ∈ l, p a = false
 | [],i=>by simp [findFrom]
 | x :: xs,i=>by
  unfold findFrom
  by_cases h : p x = true
  ·
   rw [if_pos h]
   exact ⟨fun e=>by omega,fun e=>by have:=e x (by simp);rw [h] at this;cases this⟩
  ·
   rw [if_neg h,findFrom_none p xs (i + 1)]
   exact ⟨fun e a ha=>by rcases List.mem_cons.1 ha with rfl|ha;simpa using h;exact e a ha,fun e a ha=>e a (by simp [ha])⟩
theorem findFrom_lo {α : Type} (p : α → Bool) : ∀ (l : List α) (i : Nat), findFrom p i l = -1 ∨ (i : Int) ≤ findFrom p i l ∧ findFrom p i l < i + l.length
 | [],i=>Or.inl rfl
 | x :: xs,i=>by
  unfold findFrom
  by_cases h : p x = true
  ·
   rw [if_pos h]
   exact Or.inr ⟨by omega,by simp;omega⟩
  ·
   rw [if_neg h]
   rcases findFrom_lo p xs (i + 1) with h1|⟨h1,h2⟩
   · exact Or.inl h1
   · exact Or.inr ⟨by omega,by simp;omega⟩
def sqC (W H : Int) (l : List Sl) (i : Nat) : Bool := lies W H (rdS l i) && !(l.take i).any (meets (rdS l i)) && (decide (i = 0) || before (rdS l ((i : Int) - 1)) (rdS l i))
def sqB (q : Sq) : Bool := inB q.f0 1 12 && inB q.f1 1 12 && decide (q.f2.length ≤ 60) && loopV (fun i (_ : Unit) => sqC q.f0 q.f1 q.f2 i) (fun _ s => s) (fun _ _ => false) (fun _ => true) q.f2.length 0 ()
theorem meets_iff {s t : Sl} (hs : lies 12 12 s = true) (ht : lies 12 12 t = true) : meets s t = true ↔ ∃ y x, inside y x s = true ∧ inside y x t = true := by
 have h1:=of_decide_eq_true hs
 have h2:=of_decide_eq_true ht
 unfold meets inside
 simp only [decide_eq_true_eq]
 constructor
 ·
  intro h
  by_cases a : s.f1≤t.f1 <;> by_cases b : s.f0≤t.f0
  · exact ⟨t.f1,t.f0,by omega,by omega⟩
  · exact ⟨t.f1,s.f0,by omega,by omega⟩
  · exact ⟨s.f1,t.f0,by omega,by omega⟩
  · exact ⟨s.f1,s.f0,by omega,by omega⟩
 ·
  rintro ⟨y,x,h,h'⟩
  omega
theorem lies12 {W H : Int} {s : Sl} (hW : W ≤ 12) (hH : H ≤ 12) (h : lies W H s = true) : lies 12 12 s = true := by
 have h:=of_decide_eq_true h
 exact decide_eq_true (by omega)
def gridI (l : List Sl) (i : Nat) (g : List Int) : Prop := g.length = 144 ∧ (∀ s ∈ l.take i, lies 12 12 s = true) ∧ ∀ y x, 0 ≤ y ∧ y < 12 → 0 ≤ x ∧ x < 12 → cellAt g y x = coverAt (l.take i) y x + 1
theorem lay_step {l : List Sl} {i : Nat} {g : List Int} (hi : i < l.length) (hl : lies 12 12 (rdS l i) = true) (hg : gridI l i g) :
  (laySlab i (rdS l i) g).2 = !(l.take i).any (meets (rdS l i)) ∧ ((laySlab i (rdS l i) g).2 = true → gridI l (i + 1) (laySlab i (rdS l i) g).1):=by
 obtain ⟨h1,h2,h3⟩:=hg
 have hb:=of_decide_eq_true hl
 obtain ⟨a1,a2⟩:=layY_spec i (rdS l i).f0 (rdS l i).f2.toNat (by omega) (by omega) (by omega) (rdS l i).f3.toNat (rdS l i).f1 g (by omega) (by omega) h1
 have ei : ∀ y' x',((rdS l i).f1≤y' ∧ y' < (rdS l i).f1 + ((rdS l i).f3.toNat : Int)) ∧ (rdS l i).f0≤x' ∧ x' < (rdS l i).f0 + ((rdS l i).f2.toNat : Int) ↔ inside y' x' (rdS l i) = true:=by
  intro y' x'
  unfold inside
  rw [decide_eq_true_eq]
  omega
 have hok : (laySlab i (rdS l i) g).2 = true ↔ ∀ t ∈ l.take i,¬ meets (rdS l i) t = true:=by
  show (layY _ _ _ _ _ _).2 = true ↔ _
  rw [a1]
  constructor
  ·
   intro h t ht hm
   obtain ⟨y,x,hs,hx⟩:=(meets_iff hl (h2 t ht)).1 hm
   have hin:=(ei y x).2 hs
   have hyx : (0≤y ∧ y < 12) ∧ 0≤x ∧ x < 12:=by omega
   have h0:=h y x hin.1.1 hin.1.2 hin.2.1 hin.2.2
   rw [h3 y x hyx.1 hyx.2] at h0
   have hn:=(findFrom_none (inside y x) (l.take i) 0).1 (by unfold coverAt at h0;omega) t ht
   rw [hx] at hn
   cases hn
  ·
   intro h y x b1 b2 b3 b4
   have hs:=(ei y x).1 ⟨⟨b1,b2⟩,b3,b4⟩
   rw [h3 y x (by omega) (by omega)]
   have hn : coverAt (l.take i) y x = -1:=(findFrom_none _ _ 0).2 fun t ht=>by
    by_cases hx : inside y x t = true
    · exact absurd ((meets_iff hl (h2 t ht)).2 ⟨y,x,hs,hx⟩) (h t ht)
    · simpa using hx
   omega
 refine ⟨?_,fun h=>⟨?_,?_,fun y x hy hx=>?_⟩⟩
 ·
  by_cases h : (laySlab i (rdS l i) g).2 = true
  ·
   rw [h]
   have:=hok.1 h
   symm
   rw [Bool.not_eq_true']
   rw [List.any_eq_false]
   exact this
  ·
   rw [show (laySlab i (rdS l i) g).2 = false by simpa using h]
   symm
   rw [Bool.not_eq_false']
   rw [List.any_eq_true]
   apply Classical.byContradiction
   intro hn
   exact h (hok.2 fun t ht hm=>hn ⟨t,ht,hm⟩)
 ·
  unfold laySlab
  rw [layY_len];exact h1
 ·
  intro s hs
  rw [List.take_succ_eq_append_getElem hi] at hs
  rcases List.mem_append.1 hs with hs|hs
  · exact h2 s hs
  ·
   obtain rfl:=List.mem_singleton.1 hs
   have : rdS l i = l[i]:=rdI_get hi
   rwa [this] at hl
 ·
  have e:=a2 h y x hy hx
  show cellAt (layY _ _ _ _ _ _).1 y x = _
  rw [e,h3 y x hy hx]
  have er : rdS l i = l[i]:=rdI_get hi
  unfold coverAt
  rw [List.take_succ_eq_append_getElem hi,findFrom_snoc,← er,List.length_take,show min i l.length = i by omega]
  by_cases hin : inside y x (rdS l i) = true
  ·
   rw [if_pos ((ei y x).2 hin)]
   have h0:=a1.1 h y x ((ei y x).2 hin).1.1 ((ei y x).2 hin).1.2 ((ei y x).2 hin).2.1 ((ei y x).2 hin).2.2
   rw [h3 y x hy hx] at h0
   have hn : findFrom (inside y x) 0 (l.take i) = -1:=by unfold coverAt at h0;omega
   rw [if_pos hn,if_pos hin]
   omega
  ·
   rw [if_neg (fun h'=>hin ((ei y x).1 h'))]
   by_cases hn : findFrom (inside y x) 0 (l.take i) = -1
   · rw [if_pos hn,if_neg hin,hn]
   · rw [if_neg hn]
theorem layAll_spec {W H : Int} (hW : W ≤ 12) (hH : H ≤ 12) (l : List Sl) : ∀ (d i : Nat) (g : List Int), i + d = l.length → gridI l i g →
  (layAll W H l d i g).2 = loopV (fun i (_ : Unit)=>sqC W H l i) (fun _ s=>s) (fun _ _=>false) (fun _=>true) d i () ∧ ((layAll W H l d i g).2 = true → gridI l l.length (layAll W H l d i g).1)
 | 0,i,g,hi,hg=>by
  obtain rfl : i = l.length:=by omega
  exact ⟨rfl,fun _=>hg⟩
 | d + 1,i,g,hi,hg=>by
  unfold layAll loopV
  by_cases h1 : lies W H (rdS l i) = true
  ·
   obtain ⟨a1,a2⟩:=lay_step (by omega) (lies12 hW hH h1) hg
   by_cases h2 : (decide (i = 0) ||before (rdS l ((i : Int) - 1)) (rdS l i)) = true
   ·
    rw [if_pos (by rw [h1,h2];rfl)]
    by_cases h3 : (laySlab i (rdS l i) g).2 = true
    ·
     rw [if_pos h3,if_pos (by unfold sqC;rw [h1,h2,← a1,h3];rfl)]
     exact layAll_spec hW hH l d (i + 1) _ (by omega) (a2 h3)
    ·
     have h3' : (laySlab i (rdS l i) g).2 = false:=by simpa using h3
     rw [if_neg h3,if_neg (by unfold sqC;rw [← a1,h3'];simp)]
     exact ⟨rfl,fun h=>by cases h⟩
   ·
    have h2' : (decide (i = 0) ||before (rdS l ((i : Int) - 1)) (rdS l i)) = false:=by simpa using h2
    rw [if_neg (by rw [h2'];simp),if_neg (by unfold sqC;rw [h2'];simp)]
    exact ⟨rfl,fun h=>by cases h⟩
  ·
   have h1' : lies W H (rdS l i) = false:=by simpa using h1
   rw [if_neg (by rw [h1'];simp),if_neg (by unfold sqC;rw [h1'];simp)]
   exact ⟨rfl,fun h=>by cases h⟩
theorem grid0_cell (y x : Int) : cellAt grid0 y x = 0 := by
 unfold cellAt rd grid0
 rw [List.getD_eq_getElem?_getD,List.getElem?_replicate]
 split <;> rfl
theorem layV_spec (q : Sq) : (layV q).2 = sqB q ∧ (sqB q = true → gridI q.f2 q.f2.length (layV q).1) := by
 unfold layV sqB
 by_cases h0 : (inB q.f0 1 12 && inB q.f1 1 12 && decide (q.f2.length≤60)) = true
 ·
  rw [if_pos h0,h0,Bool.true_and]
  rw [Bool.and_eq_true,Bool.and_eq_true] at h0
  have h1:=layAll_spec (inB_iff.1 h0.1.1).2 (inB_iff.1 h0.1.2).2 q.f2 q.f2.length 0 grid0 (by omega) ⟨by simp [grid0],fun s hs=>by simp at hs,fun y x _ _=>by rw [grid0_cell];simp [coverAt,findFrom]⟩
  refine ⟨h1.1,fun h=>h1.2 ?_⟩
  rw [h1.1]
  exact h
 ·
  have h0' : (inB q.f0 1 12 && inB q.f1 1 12 && decide (q.f2.length≤60)) = false:=by simpa using h0
  rw [if_neg h0,h0',Bool.false_and]
  exact ⟨rfl,fun h=>by cases h⟩
end Go.Proofs.Ytljfjljeabcfgaa.Q

namespace Go.Proofs.Ytljfjljeabcfgaa.Q
open Go.RowKit Go.Proofs.YtljfjljeabcfgaaW.PrintWords Go.Proofs.YtljfjljeabcfgaaW.PrintLast Go.Proofs.YtljfjljeabcfgaaW.PrintMore
set_option linter.unusedVariables false
set_option linter.unusedSimpArgs false
theorem isEdge_val (a : Int) : impl_isEdge.f a = some (inB a 1 12) := by
 unfold impl_isEdge.f
 rw [within_val]
 rfl
theorem isIn_val (q : Sq) (s : Sl) (hq : small q.f0 ∧ small q.f1) (hs : smallS s) (l : List Sl) : impl_Slab_isIn.f s.f0 s.f1 s.f2 s.f3 q.f0 q.f1 l = some (lies q.f0 q.f1 s) := by
 obtain ⟨h0,h1,h2,h3⟩:=hs
 unfold impl_Slab_isIn.f lies
 rw [small_w h0,small_w h1,small_w h2,small_w h3,small_w hq.1,small_w hq.2,w64 (x:=s.f0 + s.f2) (by have:=h0.1;have:=h2.1;omega) (by have:=h0.2;have:=h2.2;omega),w64 (x:=s.f1 + s.f3) (by have:=h1.1;have:=h3.1;omega) (by have:=h1.2;have:=h3.2;omega)]
 by_cases c2 : s.f2 ≥ 1
 ·
  rw [if_pos c2]
  by_cases c3 : s.f3 ≥ 1
  ·
   rw [if_pos c3]
   by_cases c0 : s.f0 ≥ 0
   ·
    rw [if_pos c0]
    by_cases c1 : s.f1 ≥ 0
    ·
     rw [if_pos c1]
     by_cases c4 : s.f0 + s.f2≤q.f0
     ·
      rw [if_pos c4]
      congr 1
      exact decide_eq_decide.2 ⟨fun h=>⟨c0,c1,c2,c3,c4,h⟩,fun h=>h.2.2.2.2.2⟩
     · rw [if_neg c4,decide_eq_false (by omega)]
    · rw [if_neg c1,decide_eq_false (by omega)]
   · rw [if_neg c0,decide_eq_false (by omega)]
  · rw [if_neg c3,decide_eq_false (by omega)]
 · rw [if_neg c2,decide_eq_false (by omega)]
theorem meets_val (s t : Sl) (hs : smallS s) (ht : smallS t) : impl_Slab_meets.f s.f0 s.f1 s.f2 s.f3 t.f0 t.f1 t.f2 t.f3 = some (meets s t) := by
 obtain ⟨h0,h1,h2,h3⟩:=hs
 obtain ⟨g0,g1,g2,g3⟩:=ht
 unfold impl_Slab_meets.f meets
 rw [small_w h0,small_w h1,small_w h2,small_w h3,small_w g0,small_w g1,small_w g2,small_w g3]
 unfold small at h0 h1 h2 h3 g0 g1 g2 g3
 rw [w64 (x:=s.f0 + s.f2) (by omega) (by omega),w64 (x:=s.f1 + s.f3) (by omega) (by omega),w64 (x:=t.f0 + t.f2) (by omega) (by omega),w64 (x:=t.f1 + t.f3) (by omega) (by omega)]
 by_cases c0 : s.f0 < t.f0 + t.f2
 ·
  rw [if_pos c0]
  by_cases c1 : t.f0 < s.f0 + s.f2
  ·
   rw [if_pos c1]
   by_cases c2 : s.f1 < t.f1 + t.f3
   ·
    rw [if_pos c2]
    congr 1
    exact decide_eq_decide.2 ⟨fun h=>⟨c0,c1,c2,h⟩,fun h=>h.2.2.2⟩
   · rw [if_neg c2,decide_eq_false (by omega)]
  · rw [if_neg c1,decide_eq_false (by omega)]
 · rw [if_neg c0,decide_eq_false (by omega)]
def cmpI (a b : Int) : Int := if a < b then -1 else if a > b then 1 else 0
theorem cmp_val (a b : Int) : cmp_Compare_int8.f a b = some (cmpI a b) := by
 unfold cmp_Compare_int8.f cmp_isNaN_int8.f cmpI
 simp only [bne_self_eq_false,Option.bind_some]
 rw [if_neg (by decide),if_neg (by decide)]
 split
 · rfl
 · split <;> rfl
def cmpS (a b : Sl) : Int := if cmpI a.f1 b.f1 = 0 then cmpI a.f0 b.f0 else cmpI a.f1 b.f1
theorem or_val (a b : Int) : Ev (fun k => cmp_Or_int.f k [a, b]) (if a = 0 then b else a) := by
 unfold cmp_Or_int.f
 refine Ev.step (fun k=>cmp_Or_int.l0.eq_2 _ _ _ _ _) (Ev.ite_pos (by simp) (Ev.ite_pos (by omega) (Ev.ite_pos (by simp) ?_)))
 have e0 : rd [a,b] 0 = a:=rfl
 have e1 : rd [a,b] 1 = b:=rfl
 rw [e0,w64 (x:=(0 : Int) + 1) (by omega) (by omega),show (0 : Int) + 1 = 1 by omega]
 by_cases h : a = 0
 ·
  rw [if_pos h]
  refine Ev.ite_pos h (Ev.step (fun k=>cmp_Or_int.l0.eq_2 _ _ _ _ _) (Ev.ite_pos (by simp) (Ev.ite_pos (by omega) (Ev.ite_pos (by simp) ?_))))
  rw [e1,w64 (x:=(1 : Int) + 1) (by omega) (by omega),show (1 : Int) + 1 = 2 by omega]
  by_cases h1 : b = 0
  ·
   rw [h1]
   exact Ev.ite_pos rfl (Ev.step (fun k=>cmp_Or_int.l0.eq_2 _ _ _ _ _) (Ev.ite_neg (by simp) (Ev.now _)))
  · exact Ev.ite_neg h1 (Ev.now _)
 ·
  rw [if_neg h]
  exact Ev.ite_neg h (Ev.now _)
theorem cmpS_val (a b : Sl) : Ev (fun k => impl_compareSlabs.f k a.f0 a.f1 a.f2 a.f3 b.f0 b.f1 b.f2 b.f3) (cmpS a b) := by
 unfold impl_compareSlabs.f
 refine Ev.call (a:=(a.f0,a.f1)) rfl (Ev.call (a:=(b.f0,b.f1)) rfl (Ev.bind (a:=cmpS a b) ?_ (Ev.now _)))
 unfold impl_compareCells.f
 exact Ev.call (cmp_val _ _) (Ev.call (cmp_val _ _) (Ev.bind (or_val _ _) (Ev.now _)))
theorem cmpS_pos (a b : Sl) : cmpS a b > 0 ↔ before b a = true := by
 unfold cmpS cmpI before
 rw [decide_eq_true_eq]
 by_cases h1 : a.f1 < b.f1
 ·
  rw [if_pos h1,if_neg (by decide)]
  omega
 ·
  rw [if_neg h1]
  by_cases h2 : a.f1 > b.f1
  ·
   rw [if_pos h2,if_neg (by decide)]
   omega
  ·
   rw [if_neg h2,if_pos rfl]
   by_cases h3 : a.f0 < b.f0
   · rw [if_pos h3];omega
   ·
    rw [if_neg h3]
    by_cases h4 : a.f0 > b.f0
    · rw [if_pos h4];omega
    · rw [if_neg h4];omega
theorem anyMeets (s : Sl) (l : List Sl) (hs : smallS s) (hl : l.length ≤ 1048576) (hm : ∀ t ∈ l, smallS t) : Ev (fun k => slices_ContainsFunc_impl_Slab_at_impl_Slab_meets.f k l s.f0 s.f1 s.f2 s.f3) (l.any (meets s)) := by
 unfold slices_ContainsFunc_impl_Slab_at_impl_Slab_meets.f
 refine Ev.bind (a:=findFrom (meets s) 0 l) ?_ (Ev.eq_ (Ev.now _) (findFrom_ge _ l 0))
 unfold slices_IndexFunc_impl_Slab_at_impl_Slab_meets.f
 have one : ∀ i (h : i < l.length),impl_Slab_meets.f s.f0 s.f1 s.f2 s.f3 (rd_T50 l (i : Int)).f0 (rd_T50 l (i : Int)).f1 (rd_T50 l (i : Int)).f2 (rd_T50 l (i : Int)).f3 = some (meets s l[i]):=by
  intro i h
  rw [rdI_get h]
  exact meets_val s _ hs (hm _ (List.getElem_mem h))
 refine Ev.find (L:=fun k i=>slices_IndexFunc_impl_Slab_at_impl_Slab_meets.l0 k l (l.length : Int) (i : Int) s.f0 s.f1 s.f2 s.f3) l (meets s) ?_ ?_ ?_
 ·
  intro i hi hp r hr
  refine Ev.step (fun k=>slices_IndexFunc_impl_Slab_at_impl_Slab_meets.l0.eq_2 _ _ _ _ _ _ _ _) (Ev.ite_pos (by omega) (Ev.ite_pos (by omega) (Ev.ite_pos (by omega) (Ev.call (one i hi) ?_))))
  rw [w64_succ (by omega),hp]
  exact Ev.ite_neg (by decide) hr
 ·
  intro i hi hp
  refine Ev.step (fun k=>slices_IndexFunc_impl_Slab_at_impl_Slab_meets.l0.eq_2 _ _ _ _ _ _ _ _) (Ev.ite_pos (by omega) (Ev.ite_pos (by omega) (Ev.ite_pos (by omega) (Ev.call (one i hi) ?_))))
  rw [hp]
  exact Ev.ite_pos rfl (Ev.now _)
 · exact Ev.step (fun k=>slices_IndexFunc_impl_Slab_at_impl_Slab_meets.l0.eq_2 _ _ _ _ _ _ _ _) (Ev.ite_neg (by omega) (Ev.now _))
theorem implLoop (q : Sq) (hq : smallQ q) (hW : q.f0 ≤ 12) (hH : q.f1 ≤ 12) : Ev (fun k => impl_ValidSquare.l0 k q.f2 (q.f2.length : Int) 0 q.f0 q.f1 q.f2) (loopV (fun i (_ : Unit) => sqC q.f0 q.f1 q.f2 i) (fun _ s => s) (fun _ _ => false) (fun _ => true) q.f2.length 0 ()) := by
 obtain ⟨q0,q1,q2,q3⟩:=hq
 have inn : ∀ i,i < q.f2.length → impl_Slab_isIn.f (rd_T50 q.f2 (i : Int)).f0 (rd_T50 q.f2 (i : Int)).f1 (rd_T50 q.f2 (i : Int)).f2 (rd_T50 q.f2 (i : Int)).f3 q.f0 q.f1 q.f2 = some (lies q.f0 q.f1 (rdS q.f2 i)):=fun i hi=>isIn_val q (rdS q.f2 i) ⟨q0,q1⟩ (smallQ.at ⟨q0,q1,q2,q3⟩ hi) q.f2
 have anyy : ∀ i,i < q.f2.length → Ev (fun k=>slices_ContainsFunc_impl_Slab_at_impl_Slab_meets.f k (q.f2.take ((i : Int)).toNat) (rd_T50 q.f2 (i : Int)).f0 (rd_T50 q.f2 (i : Int)).f1 (rd_T50 q.f2 (i : Int)).f2 (rd_T50 q.f2 (i : Int)).f3) ((q.f2.take i).any (meets (rdS q.f2 i))):=by
  intro i hi
  rw [Int.toNat_natCast]
  exact anyMeets (rdS q.f2 i) _ (smallQ.at ⟨q0,q1,q2,q3⟩ hi) (by rw [List.length_take];omega) (fun t ht=>q3 t (List.mem_of_mem_take ht))
 refine Ev.loop (L:=fun k (_ : Unit) (i : Nat)=>impl_ValidSquare.l0 k q.f2 (q.f2.length : Int) i q.f0 q.f1 q.f2) q.f2.length _ _ _ _ (fun i _=>∀ s ∈ q.f2.take i,lies 12 12 s = true) ?_ ?_ ?_ q.f2.length 0 () (by omega) (by simp)
 ·
  rintro i s hi hI hc
  unfold sqC at hc
  rw [Bool.and_eq_true,Bool.and_eq_true,Bool.not_eq_true'] at hc
  obtain ⟨⟨c1,c2⟩,c3⟩:=hc
  refine ⟨?_,fun r hr=>Ev.step (fun k=>impl_ValidSquare.l0.eq_2 _ _ _ _ _ _ _) ?_⟩
  ·
   intro t ht
   rw [List.take_succ_eq_append_getElem hi] at ht
   rcases List.mem_append.1 ht with ht|ht
   · exact hI t ht
   ·
    obtain rfl:=List.mem_singleton.1 ht
    have e : rdS q.f2 i = q.f2[i]:=rdI_get hi
    rw [e] at c1
    exact lies12 hW hH c1
  ·
   refine Ev.ite_pos (by omega) (Ev.ite_pos (by omega) (Ev.ite_pos (by omega) (Ev.call (inn i hi) ?_)))
   rw [w64_succ (by omega)]
   refine Ev.ite_pos c1 (Ev.ite_pos (by omega) (Ev.bind (anyy i hi) ?_))
   rw [c2]
   refine Ev.ite_neg (by decide) ?_
   by_cases h0 : (i : Int) > 0
   ·
    rw [w64 (x:=(i : Int) - 1) (by omega) (by omega)]
    refine Ev.ite_pos h0 (Ev.ite_pos (by omega) (Ev.ite_pos (by omega) (Ev.bind (cmpS_val (rdS q.f2 ((i : Int) - 1)) (rdS q.f2 i)) (Ev.ite_neg ?_ hr))))
    rw [cmpS_pos]
    have hb : before (rdS q.f2 ((i : Int) - 1)) (rdS q.f2 i) = true:=by
     rw [decide_eq_false (by omega),Bool.false_or] at c3
     exact c3
    unfold before at hb ⊢
    rw [decide_eq_true_eq] at hb ⊢
    omega
   · exact Ev.ite_neg h0 hr
 ·
  rintro i s hi hI hc
  refine Ev.step (fun k=>impl_ValidSquare.l0.eq_2 _ _ _ _ _ _ _) (Ev.ite_pos (by omega) (Ev.ite_pos (by omega) (Ev.ite_pos (by omega) (Ev.call (inn i hi) ?_))))
  unfold sqC at hc
  by_cases c1 : lies q.f0 q.f1 (rdS q.f2 i) = true
  ·
   refine Ev.ite_pos c1 (Ev.ite_pos (by omega) (Ev.bind (anyy i hi) ?_))
   by_cases c2 : (q.f2.take i).any (meets (rdS q.f2 i)) = true
   · exact Ev.ite_pos c2 (Ev.now _)
   ·
    have c2' : (q.f2.take i).any (meets (rdS q.f2 i)) = false:=by simpa using c2
    rw [c1,c2',Bool.not_false,Bool.true_and,Bool.true_and,Bool.or_eq_false_iff,decide_eq_false_iff_not] at hc
    obtain ⟨hc0,hcb⟩:=hc
    refine Ev.ite_neg c2 (Ev.ite_pos (by omega) ?_)
    rw [w64 (x:=(i : Int) - 1) (by omega) (by omega)]
    refine Ev.ite_pos (by omega) (Ev.ite_pos (by omega) (Ev.bind (cmpS_val (rdS q.f2 ((i : Int) - 1)) (rdS q.f2 i)) (Ev.ite_pos ?_ (Ev.now _))))
    rw [cmpS_pos]
    have em : rdS q.f2 ((i : Int) - 1) ∈ q.f2.take i:=by
     have e : (i : Int) - 1 = ((i - 1 : Nat) : Int):=by omega
     have e2 : rdS q.f2 ((i - 1 : Nat) : Int) = q.f2[i - 1]:=rdI_get (by omega)
     rw [e,e2,List.mem_take_iff_getElem]
     exact ⟨i - 1,by omega,rfl⟩
    have hp:=of_decide_eq_true (hI _ em)
    have hs:=of_decide_eq_true (lies12 hW hH c1)
    have hm : ¬ meets (rdS q.f2 i) (rdS q.f2 ((i : Int) - 1)) = true:=by
     rw [List.any_eq_false] at c2'
     exact c2' _ em
    unfold meets at hm
    unfold before at hcb ⊢
    rw [decide_eq_true_eq] at hm ⊢
    rw [decide_eq_false_iff_not] at hcb
    omega
  · exact Ev.ite_neg c1 (Ev.now _)
 ·
  intro s _
  exact Ev.step (fun k=>impl_ValidSquare.l0.eq_2 _ _ _ _ _ _ _) (Ev.ite_neg (by omega) (Ev.now _))
theorem implValid (q : Sq) (hq : smallQ q) : Ev (fun k => impl_ValidSquare.f k q.f0 q.f1 q.f2) (sqB q) := by
 unfold impl_ValidSquare.f
 rw [small_w hq.1,small_w hq.2.1]
 have no : sqB q = false → Ev (fun k=>impl_ValidSquare.j0 k true q.f0 q.f1 q.f2) (sqB q):=by
  intro e
  rw [e]
  exact Ev.step (fun k=>impl_ValidSquare.j0.eq_2 _ _ _ _ _) (Ev.ite_pos rfl (Ev.now _))
 refine Ev.call (isEdge_val _) ?_
 by_cases h0 : inB q.f0 1 12 = true
 ·
  refine Ev.ite_pos h0 (Ev.call (isEdge_val _) ?_)
  by_cases h1 : inB q.f1 1 12 = true
  ·
   refine Ev.ite_pos h1 ?_
   by_cases h2 : (q.f2.length : Int) > 60
   ·
    rw [decide_eq_true h2]
    exact no (by unfold sqB;rw [show decide (q.f2.length≤60) = false from decide_eq_false (by omega)];simp)
   ·
    rw [decide_eq_false h2]
    have e : sqB q = loopV (fun i (_ : Unit)=>sqC q.f0 q.f1 q.f2 i) (fun _ s=>s) (fun _ _=>false) (fun _=>true) q.f2.length 0 ():=by unfold sqB;rw [h0,h1,show decide (q.f2.length≤60) = true from decide_eq_true (by omega)];simp
    rw [e]
    exact Ev.step (fun k=>impl_ValidSquare.j0.eq_2 _ _ _ _ _) (Ev.ite_neg (by decide) (implLoop q hq (inB_iff.1 h0).2 (inB_iff.1 h1).2))
  · exact Ev.ite_neg h1 (no (by unfold sqB;rw [show inB q.f1 1 12 = false by simpa using h1];simp))
 · exact Ev.ite_neg h0 (no (by unfold sqB;rw [show inB q.f0 1 12 = false by simpa using h0];simp))
def sqOf (x : S25) : Sq := ⟨x.f0, x.f1, x.f2.map slabOf⟩
theorem toSq (x : S25) (h : x.f2.length ≤ 35184372088832) : Ev (fun k => laws_toSquare.f k x.f0 x.f1 x.f2) (x.f0, x.f1, (sqOf x).f2) := by
 unfold laws_toSquare.f
 exact Ev.bind (toSlabs x.f2 h) (Ev.now _)
theorem eqSq (q : Sq) (h : q.f2.length ≤ 4611686018427387904) : Ev (fun k => laws_eqSquare.f k q.f0 q.f1 q.f2 q.f0 q.f1 q.f2) true := by
 unfold laws_eqSquare.f
 exact Ev.ite_pos rfl (Ev.ite_pos rfl (Ev.bind (eqSlabs _ h) (Ev.ite_pos rfl (Ev.now _))))
theorem szSq (x : S25) (h : x.f2.length ≤ 9223372036854775807) : laws_szSquare.f x.f0 x.f1 x.f2 1048576 = some (if (1048576 : Int) < x.f2.length then (-1 : Int) else 1048576 - (x.f2.length : Int)) := by
 unfold laws_szSquare.f
 rw [szSlabs _ _ h (by omega) (by omega),Option.bind_some]
 by_cases hc : (1048576 : Int) < x.f2.length
 · rw [if_pos hc,if_pos (by decide)]
 · rw [if_neg hc,if_neg (by omega)]
theorem wf8 {x : Int} (h : (Lit.int .i8 x).wf = true) : small x := by
 have h2 : IntKind.i8.min≤x ∧ x≤IntKind.i8.max:=by simpa [Lit.wf] using h
 have e0 : IntKind.i8.min = -128:=rfl
 have e1 : IntKind.i8.max = 127:=rfl
 unfold small
 omega
end Go.Proofs.Ytljfjljeabcfgaa.Q

namespace Go.Proofs.Ytljfjljeabcfgaa.Q
open Go.RowKit Go.Proofs.YtljfjljeabcfgaaW.PrintWords Go.Proofs.YtljfjljeabcfgaaW.PrintLast Go.Proofs.YtljfjljeabcfgaaW.PrintMore
theorem sq_small {x : S25} (h : wf25 x) (hl : x.f2.length ≤ 1048576) : smallQ (sqOf x) := by
 obtain ⟨h0,h1,-,h2⟩:=h
 refine ⟨wf8 h0,wf8 h1,by show (x.f2.map slabOf).length≤_;rw [List.length_map];exact hl,fun s hs=>?_⟩
 obtain ⟨z,hz,rfl⟩:=List.mem_map.1 hs
 obtain ⟨g0,g1,g2,g3⟩:=h2 z hz
 exact ⟨wf8 g0,wf8 g1,wf8 g2,wf8 g3⟩
end Go.Proofs.Ytljfjljeabcfgaa.Q

namespace Go.Proofs.Ytljfjljeabcfgaa.Q
open Go.RowKit Go.Proofs.YtljfjljeabcfgaaW.PrintWords Go.Proofs.YtljfjljeabcfgaaW.PrintLast Go.Proofs.YtljfjljeabcfgaaW.PrintMore
set_option linter.unusedSimpArgs false
def markAt (i : Nat) : S50 := ⟨IntKind.i8.wrap (1 + 4 * (i : Int)), IntKind.i8.wrap (1 + 4 * (i : Int) + 1), IntKind.i8.wrap (1 + 4 * (i : Int) + 1 + 1), IntKind.i8.wrap (1 + 4 * (i : Int) + 1 + 1 + 1)⟩
def markedSlabs (n : Nat) : List S50 := (List.range n).map markAt
theorem rdI_set {l : List S50} {i : Nat} {x : S50} (h : i < l.length) : rd_T50 (l.set i x) (i : Int) = x := by
 rw [rdI_get (by simpa using h)]
 simp
theorem markSlabs (l : List S50) (h : l.length ≤ 1125899906842624) : Ev (fun k => laws_markSlabS.f k l 1) (1 + 4 * (l.length : Int), markedSlabs l.length) := by
 unfold laws_markSlabS.f
 have hm : (markedSlabs l.length).length = l.length:=by simp [markedSlabs]
 have h0:=Ev.run (L:=fun k (s : List S50) (i : Nat)=>laws_markSlabS.l0 k s (1 + 4 * (i : Int)) i) l.length (fun i s=>s.set i (markAt i)) (fun i s=>s.length = l.length ∧ s.take i = (markedSlabs l.length).take i) (1 + 4 * (l.length : Int),markedSlabs l.length) ?_ ?_ (d:=l.length) (i:=0) (s:=l) (by omega) ⟨rfl,by simp⟩
 · simpa using h0
 ·
  rintro i s hi ⟨h1,h2⟩
  refine ⟨⟨by simpa using h1,?_⟩,fun r hr=>Ev.step (fun k=>laws_markSlabS.l0.eq_2 _ _ _ _) ?_⟩
  ·
   show (s.set i (markAt i)).take (i + 1) = _
   rw [show markAt i = (markedSlabs l.length)[i]'(by omega) by simp [markedSlabs]]
   exact take_set_succ (by omega) (by omega) h2
  ·
   refine Ev.ite_pos (by omega) (Ev.ite_pos (ge0 _) (Ev.call rfl (Ev.call rfl (Ev.call rfl ?_))))
   rw [w64_succ (by omega),Int.toNat_natCast,w64 (x:=1 + 4 * (i : Int) + 1) (by omega) (by omega),w64 (x:=1 + 4 * (i : Int) + 1 + 1) (by omega) (by omega),w64 (x:=1 + 4 * (i : Int) + 1 + 1 + 1) (by omega) (by omega),w64 (x:=1 + 4 * (i : Int) + 1 + 1 + 1 + 1) (by omega) (by omega)]
   rw [rdI_set,rdI_set,rdI_set,List.set_set,List.set_set,List.set_set]
   ·
    rw [show (1 + 4 * (i : Int) + 1 + 1 + 1 + 1) = 1 + 4 * ((i + 1 : Nat) : Int) by omega]
    exact hr
   all_goals first|omega|(simp only [List.length_set];omega)
 ·
  rintro s ⟨h1,h2⟩
  refine Ev.step (fun k=>laws_markSlabS.l0.eq_2 _ _ _ _) (Ev.ite_neg (by omega) ?_)
  rw [List.take_of_length_le (by omega),List.take_of_length_le (by omega)] at h2
  rw [h2]
  exact Ev.now _
end Go.Proofs.Ytljfjljeabcfgaa.Q

namespace Go.Proofs.Ytljfjljeabcfgaa.Q
open Go.RowKit Go.Proofs.YtljfjljeabcfgaaW.PrintWords Go.Proofs.YtljfjljeabcfgaaW.PrintLast Go.Proofs.YtljfjljeabcfgaaW.PrintMore
set_option linter.unusedVariables false
set_option linter.unusedSimpArgs false
theorem markSq (q : Sq) (h : q.f2.length ≤ 1125899906842624) : Ev (fun k => laws_markSquare.f k q.f0 q.f1 q.f2 1) (1 + 4 * (q.f2.length : Int), markedSlabs q.f2.length) := by
 unfold laws_markSquare.f
 exact Ev.bind (markSlabs q.f2 h) (Ev.now _)
end Go.Proofs.Ytljfjljeabcfgaa.Q

namespace Go.Proofs.Ytljfjljeabcfgaa.Q
open Go.RowKit Go.Proofs.YtljfjljeabcfgaaW.PrintWords Go.Proofs.YtljfjljeabcfgaaW.PrintLast Go.Proofs.YtljfjljeabcfgaaW.PrintMore
set_option linter.unusedVariables false
set_option linter.unusedSimpArgs false
theorem specOk (q : Sq) (hq : smallQ q) : Ev (fun k => spec_l01Ok.f k [q]) (sqB q) := by
 unfold spec_l01Ok.f
 refine Ev.bind (lay_val q hq) (Ev.ite_pos (layV_len q) (Ev.eq_ (Ev.now _) (layV_spec q).1))
theorem sqB_edges {q : Sq} (h : sqB q = true) : (1 ≤ q.f0 ∧ q.f0 ≤ 12) ∧ (1 ≤ q.f1 ∧ q.f1 ≤ 12) ∧ q.f2.length ≤ 60 := by
 unfold sqB at h
 rw [Bool.and_eq_true,Bool.and_eq_true,Bool.and_eq_true,decide_eq_true_eq] at h
 exact ⟨inB_iff.1 h.1.1.1,inB_iff.1 h.1.1.2,h.1.2⟩
theorem sqB_grid {q : Sq} (h : sqB q = true) : gridI q.f2 q.f2.length (layV q).1 := (layV_spec q).2 h
theorem sqB_lies {q : Sq} (h : sqB q = true) : ∀ s ∈ q.f2, lies 12 12 s = true := by
 have h1:=(sqB_grid h).2.1
 rwa [List.take_length] at h1
theorem sqB_cell {q : Sq} (h : sqB q = true) {y x : Int} (hy : 0 ≤ y ∧ y < 12) (hx : 0 ≤ x ∧ x < 12) : cellAt (layV q).1 y x = coverAt q.f2 y x + 1 := by
 have h1:=(sqB_grid h).2.2 y x hy hx
 rwa [List.take_length] at h1
end Go.Proofs.Ytljfjljeabcfgaa.Q

namespace Go.Proofs.Ytljfjljeabcfgaa.Q
open Go.RowKit Go.Proofs.YtljfjljeabcfgaaW.PrintWords Go.Proofs.YtljfjljeabcfgaaW.PrintLast Go.Proofs.YtljfjljeabcfgaaW.PrintMore
set_option linter.unusedVariables false
set_option linter.unusedSimpArgs false
end Go.Proofs.Ytljfjljeabcfgaa.Q

namespace Go.Proofs.Ytljfjljeabcfgaa.Q
open Go.RowKit Go.Proofs.YtljfjljeabcfgaaW.PrintWords Go.Proofs.YtljfjljeabcfgaaW.PrintLast Go.Proofs.YtljfjljeabcfgaaW.PrintMore
set_option linter.unusedVariables false
set_option linter.unusedSimpArgs false
structure Ce where
 f0 : Int
 f1 : Int
def rowC (y : Nat) : Nat → Nat → List Ce
 | 0,_=>[]
 | d + 1,x=>⟨(x : Int),(y : Int)⟩ :: rowC y d (x + 1)
def rowsC (W : Nat) : Nat → Nat → List Ce
 | 0,_=>[]
 | d + 1,y=>rowC y W 0 ++ rowsC W d (y + 1)
theorem rowC_mem {y : Nat} {c : Ce} : ∀ {d x : Nat}, c ∈ rowC y d x → c.f1 = (y : Int) ∧ (x : Int) ≤ c.f0 ∧ c.f0 < (x : Int) + d
 | 0,x,h=>by simp [rowC] at h
 | d + 1,x,h=>by
  rw [rowC,List.mem_cons] at h
  rcases h with rfl|h
  · exact ⟨rfl,Int.le_refl _,by show (x : Int) < _;omega⟩
  ·
   obtain ⟨h0,h1,h2⟩:=rowC_mem h
   exact ⟨h0,by omega,by omega⟩
theorem rowsC_mem {W : Nat} {c : Ce} : ∀ {d y : Nat}, c ∈ rowsC W d y → ((y : Int) ≤ c.f1 ∧ c.f1 < (y : Int) + d) ∧ 0 ≤ c.f0 ∧ c.f0 < (W : Int)
 | 0,y,h=>by simp [rowsC] at h
 | d + 1,y,h=>by
  rw [rowsC,List.mem_append] at h
  rcases h with h|h
  ·
   obtain ⟨h0,h1,h2⟩:=rowC_mem h
   omega
  ·
   obtain ⟨h0,h1⟩:=rowsC_mem h
   omega
def allC (q : Sq) : List Ce := rowsC q.f0.toNat q.f1.toNat 0
theorem allC_mem {q : Sq} (hv : sqB q = true) {c : Ce} (h : c ∈ allC q) : (0 ≤ c.f1 ∧ c.f1 < q.f1) ∧ 0 ≤ c.f0 ∧ c.f0 < q.f0 := by
 obtain ⟨w,v,-⟩:=sqB_edges hv
 have h1:=rowsC_mem h
 omega
end Go.Proofs.Ytljfjljeabcfgaa.Q

namespace Go.Proofs.Ytljfjljeabcfgaa.Q
open Go.RowKit Go.Proofs.YtljfjljeabcfgaaW.PrintWords Go.Proofs.YtljfjljeabcfgaaW.PrintLast Go.Proofs.YtljfjljeabcfgaaW.PrintMore
set_option linter.unusedVariables false
set_option linter.unusedSimpArgs false
theorem loopV_all {c : Nat → Unit → Bool} : ∀ (d i : Nat), loopV c (fun _ s => s) (fun _ _ => false) (fun _ => true) d i () = true → ∀ j, i ≤ j → j < i + d → c j () = true := by
 intro d
 induction d with
 | zero=>intro i _ j h1 h2;omega
 | succ d ih =>
  intro i h j h1 h2
  unfold loopV at h
  by_cases hc : c i () = true
  ·
   rw [if_pos hc] at h
   by_cases e : j = i
   · rw [e];exact hc
   · exact ih (i + 1) h j (by omega) (by omega)
  ·
   rw [if_neg hc] at h
   cases h
theorem sqB_each {q : Sq} (h : sqB q = true) {i : Nat} (hi : i < q.f2.length) : sqC q.f0 q.f1 q.f2 i = true := by
 unfold sqB at h
 rw [Bool.and_eq_true] at h
 exact loopV_all _ _ h.2 i (Nat.zero_le _) (by omega)
end Go.Proofs.Ytljfjljeabcfgaa.Q

namespace Go.Proofs.Ytljfjljeabcfgaa.Q
open Go.RowKit Go.Proofs.YtljfjljeabcfgaaW.PrintWords Go.Proofs.YtljfjljeabcfgaaW.PrintLast Go.Proofs.YtljfjljeabcfgaaW.PrintMore
set_option linter.unusedVariables false
set_option linter.unusedSimpArgs false
def setIf (c : Bool) (m : List Bool) (v : Int) : List Bool := if c = true then m.set v.toNat true else m
theorem setIf_len (c : Bool) (m : List Bool) (v : Int) : (setIf c m v).length = m.length := by
 unfold setIf
 split
 · rw [List.length_set]
 · rfl
def cB1 (g : List Int) (a y x : Int) : Bool := decide (x > 0) && cellAt g y x == a
def cB2 (g : List Int) (a y x : Int) : Bool := decide (x > 0) && cellAt g y (x - 1) == a
def cB3 (g : List Int) (a y x : Int) : Bool := decide (y > 0) && cellAt g y x == a
def cB4 (g : List Int) (a y x : Int) : Bool := decide (y > 0) && cellAt g (y - 1) x == a
def st1 (g : List Int) (a y x : Int) (m : List Bool) : List Bool := setIf (cB1 g a y x) m (cellAt g y (x - 1))
def st2 (g : List Int) (a y x : Int) (m : List Bool) : List Bool := setIf (cB2 g a y x) m (cellAt g y x)
def st3 (g : List Int) (a y x : Int) (m : List Bool) : List Bool := setIf (cB3 g a y x) m (cellAt g (y - 1) x)
def st4 (g : List Int) (a y x : Int) (m : List Bool) : List Bool := setIf (cB4 g a y x) m (cellAt g y x)
def stp (g : List Int) (a : Int) (m : List Bool) (c : Ce) : List Bool := st4 g a c.f1 c.f0 (st3 g a c.f1 c.f0 (st2 g a c.f1 c.f0 (st1 g a c.f1 c.f0 m)))
theorem stp_len (g : List Int) (a : Int) (m : List Bool) (c : Ce) : (stp g a m c).length = m.length := by
 unfold stp st4 st3 st2 st1
 rw [setIf_len,setIf_len,setIf_len,setIf_len]
structure BOk (g : List Int) (n : Nat) (idx : Int) : Prop where
 len : g.length = 144
 n60 : n≤60
 i0 : 0≤idx
 i1 : idx < n
 lo : ∀ y x,0≤y ∧ y < 12 → 0≤x ∧ x < 12 → 0≤cellAt g y x ∧ cellAt g y x≤n
theorem bes6 (q : Sq) (g : List Int) (n : Nat) (idx : Int) (hg : BOk g n idx) (y x : Nat) (hy : y < 12) (hx : x < 12) (m : List Bool) (hm : m.length = n + 1) (r : List Int) (b : Bool) (hb : b = cB3 g (idx + 1) y x)
  (h : Ev (fun k=>spec_l01Beside.l1 k [q] idx (st4 g (idx + 1) y x (st3 g (idx + 1) y x m)) (y : Int) ((x + 1 : Nat) : Int) g) r) :
  Ev (fun k=>spec_l01Beside.j6 k [q] idx m (y : Int) (x : Int) b g) r:=by
 refine Ev.step (fun k=>spec_l01Beside.j6.eq_2 _ _ _ _ _ _ _ _) ?_
 have h0:=hg.i0
 have h1:=hg.i1
 have h2:=hg.n60
 have hl:=hg.len
 rw [i8w (a:=(x : Int) + 1) ⟨by omega,by omega⟩,w64 (x:=idx + 1) (by omega) (by omega),show (x : Int) + 1 = ((x + 1 : Nat) : Int) by omega]
 have l0:=hg.lo y x ⟨by omega,by omega⟩ ⟨by omega,by omega⟩
 by_cases hy0 : (y : Int) > 0
 ·
  rw [i8w (a:=(y : Int) - 1) ⟨by omega,by omega⟩]
  have l1:=hg.lo (y - 1) x ⟨by omega,by omega⟩ ⟨by omega,by omega⟩
  have e4 : ∀ m,st4 g (idx + 1) y x m = if cellAt g (y - 1) x = idx + 1 then m.set (cellAt g y x).toNat true else m:=by
   intro m
   unfold st4 setIf cB4
   rw [decide_eq_true hy0,Bool.true_and]
   simp only [beq_iff_eq]
  unfold cellAt at l0 l1
  by_cases hc : b = true
  ·
   have e3 : st3 g (idx + 1) y x m = m.set (cellAt g (y - 1) x).toNat true:=by
    unfold st3 setIf
    rw [← hb,if_pos hc]
   rw [e3,e4] at h
   refine Ev.ite_pos hc (Ev.ite_pos (by omega) (Ev.ite_pos (by omega) (Ev.ite_pos (by omega) (Ev.ite_pos (by omega) (Ev.ite_pos (by omega) (Ev.ite_pos l1.1 (Ev.ite_pos (by omega) (Ev.call rfl (Ev.ite_pos hy0 ?_)))))))))
   by_cases h4 : cellAt g (y - 1) x = idx + 1
   ·
    rw [if_pos h4] at h
    exact Ev.ite_pos h4 (Ev.ite_pos (by omega) (Ev.ite_pos (by omega) (Ev.ite_pos (by omega) (Ev.ite_pos l0.1 (Ev.ite_pos (by omega) h)))))
   ·
    rw [if_neg h4] at h
    exact Ev.ite_neg h4 h
  ·
   have e3 : st3 g (idx + 1) y x m = m:=by
    unfold st3 setIf
    rw [← hb,if_neg hc]
   rw [e3,e4] at h
   refine Ev.ite_neg hc (Ev.ite_pos hy0 (Ev.ite_pos (by omega) (Ev.ite_pos (by omega) (Ev.ite_pos (by omega) (Ev.ite_pos (by omega) (Ev.ite_pos (by omega) ?_))))))
   by_cases h4 : cellAt g (y - 1) x = idx + 1
   ·
    rw [if_pos h4] at h
    exact Ev.ite_pos h4 (Ev.ite_pos (by omega) (Ev.ite_pos (by omega) (Ev.ite_pos (by omega) (Ev.ite_pos l0.1 (Ev.ite_pos (by omega) h)))))
   ·
    rw [if_neg h4] at h
    exact Ev.ite_neg h4 h
 ·
  have hb' : b = false:=by rw [hb];unfold cB3;rw [decide_eq_false hy0,Bool.false_and]
  have e3 : st3 g (idx + 1) y x m = m:=by
   unfold st3 setIf
   rw [← hb,if_neg (by simp [hb'])]
  have e4 : st4 g (idx + 1) y x m = m:=by
   unfold st4 setIf cB4
   rw [decide_eq_false hy0,Bool.false_and,if_neg (by decide)]
  rw [e3,e4] at h
  exact Ev.ite_neg (by simp [hb']) (Ev.ite_neg hy0 h)
theorem bes5 (q : Sq) (g : List Int) (n : Nat) (idx : Int) (hg : BOk g n idx) (y x : Nat) (hy : y < 12) (hx : x < 12) (m : List Bool) (hm : m.length = n + 1) (r : List Int)
  (h : Ev (fun k=>spec_l01Beside.l1 k [q] idx (st4 g (idx + 1) y x (st3 g (idx + 1) y x m)) (y : Int) ((x + 1 : Nat) : Int) g) r) :
  Ev (fun k=>spec_l01Beside.j5 k [q] idx m (y : Int) (x : Int) g) r:=by
 refine Ev.step (fun k=>spec_l01Beside.j5.eq_2 _ _ _ _ _ _ _) ?_
 have h0:=hg.i0
 have h1:=hg.i1
 have h2:=hg.n60
 have hl:=hg.len
 rw [w64 (x:=idx + 1) (by omega) (by omega)]
 by_cases hy0 : (y : Int) > 0
 · exact Ev.ite_pos hy0 (Ev.ite_pos (by omega) (Ev.ite_pos (by omega) (Ev.ite_pos (by omega) (Ev.ite_pos (by omega) (Ev.ite_pos (by omega) (bes6 q g n idx hg y x hy hx m hm r _ (by unfold cB3;rw [decide_eq_true hy0,Bool.true_and];rfl) h))))))
 · exact Ev.ite_neg hy0 (bes6 q g n idx hg y x hy hx m hm r _ (by unfold cB3;rw [decide_eq_false hy0,Bool.false_and]) h)
theorem bes4 (q : Sq) (g : List Int) (n : Nat) (idx : Int) (hg : BOk g n idx) (y x : Nat) (hy : y < 12) (hx : x < 12) (m : List Bool) (hm : m.length = n + 1) (r : List Int) (b : Bool) (hb : b = cB2 g (idx + 1) y x)
  (h : Ev (fun k=>spec_l01Beside.j5 k [q] idx (st2 g (idx + 1) y x m) (y : Int) (x : Int) g) r) :
  Ev (fun k=>spec_l01Beside.j4 k [q] idx m (y : Int) (x : Int) b g) r:=by
 refine Ev.step (fun k=>spec_l01Beside.j4.eq_2 _ _ _ _ _ _ _ _) ?_
 have hl:=hg.len
 have l0:=hg.lo y x ⟨by omega,by omega⟩ ⟨by omega,by omega⟩
 have e : st2 g (idx + 1) y x m = if b = true then m.set (cellAt g y x).toNat true else m:=by unfold st2 setIf;rw [← hb]
 rw [e] at h
 unfold cellAt at l0
 by_cases hc : b = true
 ·
  rw [if_pos hc] at h
  exact Ev.ite_pos hc (Ev.ite_pos (by omega) (Ev.ite_pos (by omega) (Ev.ite_pos (by omega) (Ev.ite_pos (by omega) (Ev.ite_pos (by omega) (Ev.ite_pos l0.1 (Ev.ite_pos (by omega) h)))))))
 ·
  rw [if_neg hc] at h
  exact Ev.ite_neg hc h
theorem bes3 (q : Sq) (g : List Int) (n : Nat) (idx : Int) (hg : BOk g n idx) (y x : Nat) (hy : y < 12) (hx : x < 12) (m : List Bool) (hm : m.length = n + 1) (r : List Int)
  (h : Ev (fun k=>spec_l01Beside.j5 k [q] idx (st2 g (idx + 1) y x m) (y : Int) (x : Int) g) r) :
  Ev (fun k=>spec_l01Beside.j3 k [q] idx m (y : Int) (x : Int) g) r:=by
 refine Ev.step (fun k=>spec_l01Beside.j3.eq_2 _ _ _ _ _ _ _) ?_
 have h0:=hg.i0
 have h1:=hg.i1
 have h2:=hg.n60
 have hl:=hg.len
 rw [w64 (x:=idx + 1) (by omega) (by omega)]
 by_cases hx0 : (x : Int) > 0
 ·
  rw [i8w (a:=(x : Int) - 1) ⟨by omega,by omega⟩]
  exact Ev.ite_pos hx0 (Ev.ite_pos (by omega) (Ev.ite_pos (by omega) (Ev.ite_pos (by omega) (Ev.ite_pos (by omega) (Ev.ite_pos (by omega) (bes4 q g n idx hg y x hy hx m hm r _ (by unfold cB2;rw [decide_eq_true hx0,Bool.true_and];rfl) h))))))
 · exact Ev.ite_neg hx0 (bes4 q g n idx hg y x hy hx m hm r _ (by unfold cB2;rw [decide_eq_false hx0,Bool.false_and]) h)
theorem bes2 (q : Sq) (g : List Int) (n : Nat) (idx : Int) (hg : BOk g n idx) (y x : Nat) (hy : y < 12) (hx : x < 12) (m : List Bool) (hm : m.length = n + 1) (r : List Int) (b : Bool) (hb : b = cB1 g (idx + 1) y x)
  (h : Ev (fun k=>spec_l01Beside.j3 k [q] idx (st1 g (idx + 1) y x m) (y : Int) (x : Int) g) r) :
  Ev (fun k=>spec_l01Beside.j2 k [q] idx m (y : Int) (x : Int) b g) r:=by
 refine Ev.step (fun k=>spec_l01Beside.j2.eq_2 _ _ _ _ _ _ _ _) ?_
 have hl:=hg.len
 have e : st1 g (idx + 1) y x m = if b = true then m.set (cellAt g y (x - 1)).toNat true else m:=by unfold st1 setIf;rw [← hb]
 rw [e] at h
 by_cases hc : b = true
 ·
  rw [if_pos hc] at h
  have hx0 : (x : Int) > 0:=by
   rw [hb] at hc
   unfold cB1 at hc
   rw [Bool.and_eq_true,decide_eq_true_eq] at hc
   exact hc.1
  rw [i8w (a:=(x : Int) - 1) ⟨by omega,by omega⟩]
  have l0:=hg.lo y (x - 1) ⟨by omega,by omega⟩ ⟨by omega,by omega⟩
  unfold cellAt at l0
  exact Ev.ite_pos hc (Ev.ite_pos (by omega) (Ev.ite_pos (by omega) (Ev.ite_pos (by omega) (Ev.ite_pos (by omega) (Ev.ite_pos (by omega) (Ev.ite_pos l0.1 (Ev.ite_pos (by omega) h)))))))
 ·
  rw [if_neg hc] at h
  exact Ev.ite_neg hc h
theorem bes_row (q : Sq) (g : List Int) (n : Nat) (idx : Int) (hg : BOk g n idx) (W : Nat) (hW : q.f0 = W) (hW2 : W ≤ 12) (y : Nat) (hy : y < 12) (r : List Int) : ∀ (d x : Nat) (m : List Bool), x + d = W → m.length = n + 1 →
  Ev (fun k=>spec_l01Beside.l0 k [q] idx ((rowC y d x).foldl (stp g (idx + 1)) m) ((y + 1 : Nat) : Int) g) r → Ev (fun k=>spec_l01Beside.l1 k [q] idx m (y : Int) (x : Int) g) r:=by
 intro d
 induction d with
 | zero =>
  intro x m hx hm h
  refine Ev.step (fun k=>spec_l01Beside.l1.eq_2 _ _ _ _ _ _ _) ?_
  rw [rdQ,i8w (a:=(y : Int) + 1) ⟨by omega,by omega⟩]
  exact Ev.ite_pos (one_pos q) (Ev.ite_neg (by omega) h)
 | succ d ih =>
  intro x m hx hm h
  refine Ev.step (fun k=>spec_l01Beside.l1.eq_2 _ _ _ _ _ _ _) ?_
  have h0:=hg.i0
  have h1:=hg.i1
  have h2:=hg.n60
  have hl:=hg.len
  rw [rdQ,w64 (x:=idx + 1) (by omega) (by omega)]
  refine Ev.ite_pos (one_pos q) (Ev.ite_pos (by omega) ?_)
  have go : ∀ b,b = cB1 g (idx + 1) y x → Ev (fun k=>spec_l01Beside.j2 k [q] idx m (y : Int) (x : Int) b g) r:=by
   intro b hb
   refine bes2 q g n idx hg y x hy (by omega) m hm r b hb (bes3 q g n idx hg y x hy (by omega) _ (by rw [st1,setIf_len];exact hm) r (bes5 q g n idx hg y x hy (by omega) _ (by rw [st2,setIf_len,st1,setIf_len];exact hm) r ?_))
   exact ih (x + 1) _ (by omega) (by rw [st4,setIf_len,st3,setIf_len,st2,setIf_len,st1,setIf_len];exact hm) h
  by_cases hx0 : (x : Int) > 0
  · exact Ev.ite_pos hx0 (Ev.ite_pos (by omega) (Ev.ite_pos (by omega) (Ev.ite_pos (by omega) (Ev.ite_pos (by omega) (Ev.ite_pos (by omega) (go _ (by unfold cB1;rw [decide_eq_true hx0,Bool.true_and];rfl)))))))
  · exact Ev.ite_neg hx0 (go _ (by unfold cB1;rw [decide_eq_false hx0,Bool.false_and]))
theorem fold_len (g : List Int) (a : Int) : ∀ (L : List Ce) (m : List Bool), (L.foldl (stp g a) m).length = m.length
 | [],_=>rfl
 | c :: L,m=>by rw [List.foldl_cons,fold_len g a L,stp_len]
theorem bes_rows (q : Sq) (g : List Int) (n : Nat) (idx : Int) (hg : BOk g n idx) (W H : Nat) (hW : q.f0 = W) (hH : q.f1 = H) (hW2 : W ≤ 12) (hH2 : H ≤ 12) (r : List Int) : ∀ (d y : Nat) (m : List Bool), y + d = H → m.length = n + 1 →
  Ev (fun k=>spec_l01Beside.l2 k [q] idx ((rowsC W d y).foldl (stp g (idx + 1)) m) [] 0) r → Ev (fun k=>spec_l01Beside.l0 k [q] idx m (y : Int) g) r:=by
 intro d
 induction d with
 | zero =>
  intro y m hy hm h
  refine Ev.step (fun k=>spec_l01Beside.l0.eq_2 _ _ _ _ _ _) ?_
  rw [rdQ]
  exact Ev.ite_pos (one_pos q) (Ev.ite_neg (by omega) h)
 | succ d ih =>
  intro y m hy hm h
  refine Ev.step (fun k=>spec_l01Beside.l0.eq_2 _ _ _ _ _ _) ?_
  rw [rdQ]
  refine Ev.ite_pos (one_pos q) (Ev.ite_pos (by omega) (bes_row q g n idx hg W hW hW2 y (by omega) r W 0 m (by omega) hm (ih (y + 1) _ (by omega) (by rw [fold_len];exact hm) ?_)))
  rw [rowsC,List.foldl_append] at h
  exact h
def on (m : List Bool) (v : Nat) : Bool := m.getD v false
theorem on_set {m : List Bool} {j v : Nat} (hj : j < m.length) : on (m.set j true) v = (on m v || decide (v = j)) := by
 unfold on
 rw [List.getD_eq_getElem?_getD,List.getD_eq_getElem?_getD,List.getElem?_set]
 by_cases e : j = v
 ·
  subst e
  rw [if_pos rfl,if_pos hj]
  simp
 · rw [if_neg e,decide_eq_false (fun h=>e h.symm),Bool.or_false]
theorem on_setIf {m : List Bool} {c : Bool} {k : Int} {v : Nat} (h0 : c = true → 0 ≤ k ∧ k < m.length) : on (setIf c m k) v = (on m v || (c && decide ((v : Int) = k))) := by
 unfold setIf
 by_cases hc : c = true
 ·
  obtain ⟨h1,h2⟩:=h0 hc
  rw [if_pos hc,on_set (by omega),hc,Bool.true_and]
  congr 1
  exact decide_eq_decide.2 ⟨fun h=>by omega,fun h=>by omega⟩
 · rw [if_neg hc,show c = false by simpa using hc,Bool.false_and,Bool.or_false]
def touch (g : List Int) (a : Int) (v : Nat) (c : Ce) : Bool :=
 (cB1 g a c.f1 c.f0 && decide ((v : Int) = cellAt g c.f1 (c.f0 - 1))) ||(cB2 g a c.f1 c.f0 && decide ((v : Int) = cellAt g c.f1 c.f0)) ||(cB3 g a c.f1 c.f0 && decide ((v : Int) = cellAt g (c.f1 - 1) c.f0)) ||(cB4 g a c.f1 c.f0 && decide ((v : Int) = cellAt g c.f1 c.f0))
theorem on_stp {g : List Int} {n : Nat} {idx : Int} (hg : BOk g n idx) {m : List Bool} (hm : m.length = n + 1) {c : Ce} (hc : (0 ≤ c.f1 ∧ c.f1 < 12) ∧ 0 ≤ c.f0 ∧ c.f0 < 12) (a : Int) (v : Nat) : on (stp g a m c) v = (on m v || touch g a v c) := by
 have l0:=hg.lo c.f1 c.f0 hc.1 hc.2
 unfold stp
 rw [st4,on_setIf,st3,on_setIf,st2,on_setIf,st1,on_setIf]
 ·
  unfold touch
  simp only [Bool.or_assoc]
 ·
  intro h
  unfold cB1 at h
  rw [Bool.and_eq_true,decide_eq_true_eq] at h
  have:=hg.lo c.f1 (c.f0 - 1) hc.1 (by omega)
  omega
 ·
  intro h
  rw [st1,setIf_len]
  omega
 ·
  intro h
  unfold cB3 at h
  rw [Bool.and_eq_true,decide_eq_true_eq] at h
  have:=hg.lo (c.f1 - 1) c.f0 (by omega) hc.2
  rw [st2,setIf_len,st1,setIf_len]
  omega
 ·
  intro h
  rw [st3,setIf_len,st2,setIf_len,st1,setIf_len]
  omega
theorem on_fold {g : List Int} {n : Nat} {idx : Int} (hg : BOk g n idx) (a : Int) (v : Nat) : ∀ (L : List Ce) (m : List Bool), m.length = n + 1 → (∀ c ∈ L, (0 ≤ c.f1 ∧ c.f1 < 12) ∧ 0 ≤ c.f0 ∧ c.f0 < 12) → on (L.foldl (stp g a) m) v = (on m v || L.any (touch g a v))
 | [],m,_,_=>by simp
 | c :: L,m,hm,hL=>by
  rw [List.foldl_cons,on_fold hg a v L _ (by rw [stp_len];exact hm) fun z hz=>hL z (List.mem_cons_of_mem _ hz),on_stp hg hm (hL c (List.mem_cons_self ..)),List.any_cons,Bool.or_assoc]
def pick (p : Nat → Bool) (n : Nat) : List Int := ((List.range n).filter p).map (fun i : Nat => (i : Int))
theorem pick_succ (p : Nat → Bool) (n : Nat) : pick p (n + 1) = if p n = true then pick p n ++ [(n : Int)] else pick p n := by
 unfold pick
 rw [List.range_succ,List.filter_append,List.map_append]
 by_cases h : p n = true
 ·
  rw [if_pos h,List.filter_cons_of_pos h]
  rfl
 ·
  rw [if_neg h,List.filter_cons_of_neg h]
  simp
theorem pick_len (p : Nat → Bool) (n : Nat) : (pick p n).length ≤ n := by
 unfold pick
 rw [List.length_map]
 refine Nat.le_trans (List.length_filter_le _ _) ?_
 rw [List.length_range]
 exact Nat.le_refl _
theorem pick_congr {p r : Nat → Bool} {n : Nat} (h : ∀ i, i < n → p i = r i) : pick p n = pick r n := by
 unfold pick
 congr 1
 exact List.filter_congr fun i hi=>h i (List.mem_range.1 hi)
theorem bes_out (q : Sq) (m : List Bool) (idx : Int) (hm : m.length = q.f2.length + 1) (hn : q.f2.length ≤ 60) : Ev (fun k => spec_l01Beside.l2 k [q] idx m [] 0) (pick (fun i => on m (i + 1) && !decide ((i : Int) = idx)) q.f2.length) := by
 refine Ev.run (L:=fun k (s : List Int) (i : Nat)=>spec_l01Beside.l2 k [q] idx m s (i : Int)) q.f2.length (fun i s=>pick (fun i=>on m (i + 1) && !decide ((i : Int) = idx)) (i + 1)) (fun i s=>s = pick (fun i=>on m (i + 1) && !decide ((i : Int) = idx)) i) _ ?_ ?_ (d:=q.f2.length) (i:=0) (s:=[]) (by omega) rfl
 ·
  rintro i s hi rfl
  refine ⟨rfl,fun r hr=>Ev.step (fun k=>spec_l01Beside.l2.eq_2 _ _ _ _ _ _) ?_⟩
  have hl:=pick_len (fun i=>on m (i + 1) && !decide ((i : Int) = idx)) i
  rw [pick_succ] at hr
  rw [rdQ,w64_succ (by omega)]
  have hon : rdOf false m ((i + 1 : Nat) : Int) = on m (i + 1):=by
   unfold rdOf on
   rw [Int.toNat_natCast]
  refine Ev.ite_pos (one_pos q) (Ev.ite_pos (by omega) (Ev.ite_pos (by omega) (Ev.ite_pos (by omega) ?_)))
  rw [hon]
  by_cases h1 : on m (i + 1) = true
  ·
   by_cases h2 : (i : Int) = idx
   ·
    rw [if_neg (by rw [decide_eq_true h2];simp)] at hr
    exact Ev.ite_pos h1 (Ev.ite_pos h2 hr)
   ·
    rw [if_pos (by rw [h1,decide_eq_false h2];rfl)] at hr
    exact Ev.ite_pos h1 (Ev.ite_neg h2 (Ev.ite_pos (by omega) hr))
  ·
   rw [if_neg (by rw [show on m (i + 1) = false by simpa using h1];simp)] at hr
   exact Ev.ite_neg h1 hr
 ·
  rintro s rfl
  refine Ev.step (fun k=>spec_l01Beside.l2.eq_2 _ _ _ _ _ _) ?_
  rw [rdQ]
  exact Ev.ite_pos (one_pos q) (Ev.ite_neg (by omega) (Ev.now _))
end Go.Proofs.Ytljfjljeabcfgaa.Q

namespace Go.Proofs.Ytljfjljeabcfgaa.Q
open Go.RowKit Go.Proofs.YtljfjljeabcfgaaW.PrintWords Go.Proofs.YtljfjljeabcfgaaW.PrintLast Go.Proofs.YtljfjljeabcfgaaW.PrintMore
set_option linter.unusedVariables false
set_option linter.unusedSimpArgs false
theorem findFrom_hit {α : Type} (p : α → Bool) : ∀ (l : List α) (i : Nat), (∃ a ∈ l, p a = true) → ∃ j, ∃ h : j < l.length, findFrom p i l = ((i + j : Nat) : Int) ∧ p l[j] = true
 | [],i,h=>by obtain ⟨a,ha,-⟩:=h;cases ha
 | x :: xs,i,h=>by
  unfold findFrom
  by_cases hx : p x = true
  · exact ⟨0,by simp,by rw [if_pos hx];simp,hx⟩
  ·
   have h' : ∃ a ∈ xs,p a = true:=by
    obtain ⟨a,ha,hp⟩:=h
    rcases List.mem_cons.1 ha with rfl|ha
    · exact absurd hp hx
    · exact ⟨a,ha,hp⟩
   obtain ⟨j,hj,h1,h2⟩:=findFrom_hit p xs (i + 1) h'
   exact ⟨j + 1,by simpa using hj,by rw [if_neg hx,h1];omega,by simpa using h2⟩
theorem apart {q : Sq} (hv : sqB q = true) {i j : Nat} (hi : i < q.f2.length) (hj : j < i) : meets q.f2[i] (q.f2[j]'(by omega)) = false := by
 have hc:=sqB_each hv hi
 unfold sqC at hc
 rw [Bool.and_eq_true,Bool.and_eq_true,Bool.not_eq_true'] at hc
 have c2:=hc.1.2
 have e : rdS q.f2 i = q.f2[i]:=rdI_get hi
 rw [e,List.any_eq_false] at c2
 have hm : q.f2[j]'(by omega) ∈ q.f2.take i:=by
  rw [List.mem_take_iff_getElem]
  exact ⟨j,by omega,rfl⟩
 simpa using c2 _ hm
theorem one_in {q : Sq} (hv : sqB q = true) {i j : Nat} (hi : i < q.f2.length) (hj : j < q.f2.length) {y x : Int} (h1 : inside y x q.f2[i] = true) (h2 : inside y x q.f2[j] = true) : i = j := by
 have li:=sqB_lies hv _ (List.getElem_mem hi)
 have lj:=sqB_lies hv _ (List.getElem_mem hj)
 by_cases h : i = j
 · exact h
 ·
  exfalso
  by_cases hlt : j < i
  ·
   have h3:=apart hv hi hlt
   rw [(meets_iff li lj).2 ⟨y,x,h1,h2⟩] at h3
   cases h3
  ·
   have h3:=apart hv hj (show i < j by omega)
   rw [(meets_iff lj li).2 ⟨y,x,h2,h1⟩] at h3
   cases h3
theorem cell_iff {q : Sq} (hv : sqB q = true) {i : Nat} (hi : i < q.f2.length) {y x : Int} (hy : 0 ≤ y ∧ y < 12) (hx : 0 ≤ x ∧ x < 12) : cellAt (layV q).1 y x = (i : Int) + 1 ↔ inside y x q.f2[i] = true := by
 rw [sqB_cell hv hy hx]
 unfold coverAt
 constructor
 ·
  intro h
  have hne : ¬ findFrom (inside y x) 0 q.f2 = -1:=by omega
  rw [findFrom_none] at hne
  have hex : ∃ a ∈ q.f2,inside y x a = true:=by
   by_cases h0 : ∃ a,a ∈ q.f2 ∧ inside y x a = true
   · exact h0
   ·
    exfalso
    apply hne
    intro a ha
    cases hb : inside y x a
    · rfl
    · exact absurd ⟨a,ha,hb⟩ h0
  obtain ⟨j,hj,h1,h2⟩:=findFrom_hit _ q.f2 0 hex
  have : j = i:=by omega
  subst this
  exact h2
 ·
  intro h
  obtain ⟨j,hj,h1,h2⟩:=findFrom_hit (inside y x) q.f2 0 ⟨_,List.getElem_mem hi,h⟩
  have:=one_in hv hi hj h h2
  omega
theorem mem_rowC {y : Nat} {c : Ce} : ∀ {d x : Nat}, c.f1 = (y : Int) → (x : Int) ≤ c.f0 → c.f0 < (x : Int) + d → c ∈ rowC y d x
 | 0,x,h0,h1,h2=>by omega
 | d + 1,x,h0,h1,h2=>by
  rw [rowC,List.mem_cons]
  by_cases h : c.f0 = (x : Int)
  ·
   left
   obtain ⟨a,b⟩:=c
   simp only at h h0
   rw [h,h0]
  ·
   right
   exact mem_rowC h0 (by omega) (by omega)
theorem mem_rowsC {W : Nat} {c : Ce} : ∀ {d y : Nat}, (y : Int) ≤ c.f1 → c.f1 < (y : Int) + d → 0 ≤ c.f0 → c.f0 < (W : Int) → c ∈ rowsC W d y
 | 0,y,h0,h1,h2,h3=>by omega
 | d + 1,y,h0,h1,h2,h3=>by
  rw [rowsC,List.mem_append]
  by_cases h : c.f1 = (y : Int)
  · exact Or.inl (mem_rowC h (by omega) (by omega))
  · exact Or.inr (mem_rowsC (by omega) (by omega) h2 h3)
theorem mem_allC {q : Sq} (y x : Int) (hy : 0 ≤ y ∧ y < q.f1) (hx : 0 ≤ x ∧ x < q.f0) : (⟨x, y⟩ : Ce) ∈ allC q :=
 mem_rowsC (show ((0 : Nat) : Int)≤y by omega) (show y < ((0 : Nat) : Int) + (q.f1.toNat : Int) by omega) hx.1 (show x < (q.f0.toNat : Int) by omega)
def beB (a b : Sl) : Bool := meets ⟨a.f0 - 1, a.f1, a.f2 + 2, a.f3⟩ b || meets ⟨a.f0, a.f1 - 1, a.f2, a.f3 + 2⟩ b
theorem touch_iff {q : Sq} (hv : sqB q = true) {i j : Nat} (hi : i < q.f2.length) (hj : j < q.f2.length) (hne : i ≠ j) : (allC q).any (touch (layV q).1 ((i : Int) + 1) (j + 1)) = beB q.f2[i] q.f2[j] := by
 obtain ⟨w,v,-⟩:=sqB_edges hv
 have li:=of_decide_eq_true (show lies q.f0 q.f1 q.f2[i] = true from by
  have hc:=sqB_each hv hi
  unfold sqC at hc
  rw [Bool.and_eq_true,Bool.and_eq_true,show rdS q.f2 i = q.f2[i] from rdI_get hi] at hc
  exact hc.1.1)
 have lj:=of_decide_eq_true (show lies q.f0 q.f1 q.f2[j] = true from by
  have hc:=sqB_each hv hj
  unfold sqC at hc
  rw [Bool.and_eq_true,Bool.and_eq_true,show rdS q.f2 j = q.f2[j] from rdI_get hj] at hc
  exact hc.1.1)
 have hap : ¬ (q.f2[i].f0 < q.f2[j].f0 + q.f2[j].f2 ∧ q.f2[j].f0 < q.f2[i].f0 + q.f2[i].f2 ∧ q.f2[i].f1 < q.f2[j].f1 + q.f2[j].f3 ∧ q.f2[j].f1 < q.f2[i].f1 + q.f2[i].f3):=by
  intro hm
  have h1 : meets q.f2[i] q.f2[j] = true:=decide_eq_true hm
  obtain ⟨y,x,h2,h3⟩:=(meets_iff (sqB_lies hv _ (List.getElem_mem hi)) (sqB_lies hv _ (List.getElem_mem hj))).1 h1
  exact hne (one_in hv hi hj h2 h3)
 rw [Bool.eq_iff_iff,List.any_eq_true]
 unfold beB meets
 rw [Bool.or_eq_true,decide_eq_true_eq,decide_eq_true_eq]
 simp only
 constructor
 ·
  rintro ⟨c,hc,ht⟩
  have hb:=allC_mem hv hc
  unfold touch cB1 cB2 cB3 cB4 at ht
  simp only [Bool.or_eq_true,Bool.and_eq_true,decide_eq_true_eq,beq_iff_eq] at ht
  rcases ht with ((⟨⟨h0,h1⟩,h2⟩|⟨⟨h0,h1⟩,h2⟩)|⟨⟨h0,h1⟩,h2⟩)|⟨⟨h0,h1⟩,h2⟩
  ·
   have a1:=of_decide_eq_true ((cell_iff hv hi (by omega) (by omega)).1 h1)
   have a2:=of_decide_eq_true ((cell_iff hv hj (by omega) (by omega)).1 (show cellAt (layV q).1 c.f1 (c.f0 - 1) = (j : Int) + 1 by omega))
   omega
  ·
   have a1:=of_decide_eq_true ((cell_iff hv hi (by omega) (by omega)).1 h1)
   have a2:=of_decide_eq_true ((cell_iff hv hj (by omega) (by omega)).1 (show cellAt (layV q).1 c.f1 c.f0 = (j : Int) + 1 by omega))
   omega
  ·
   have a1:=of_decide_eq_true ((cell_iff hv hi (by omega) (by omega)).1 h1)
   have a2:=of_decide_eq_true ((cell_iff hv hj (by omega) (by omega)).1 (show cellAt (layV q).1 (c.f1 - 1) c.f0 = (j : Int) + 1 by omega))
   omega
  ·
   have a1:=of_decide_eq_true ((cell_iff hv hi (by omega) (by omega)).1 h1)
   have a2:=of_decide_eq_true ((cell_iff hv hj (by omega) (by omega)).1 (show cellAt (layV q).1 c.f1 c.f0 = (j : Int) + 1 by omega))
   omega
 ·
  have fin : ∀ y x : Int,0≤y ∧ y < q.f1 → 0≤x ∧ x < q.f0 → touch (layV q).1 ((i : Int) + 1) (j + 1) ⟨x,y⟩ = true → ∃ c,c ∈ allC q ∧ touch (layV q).1 ((i : Int) + 1) (j + 1) c = true:=fun y x hy hx ht=>⟨⟨x,y⟩,mem_allC y x hy hx,ht⟩
  have tt : ∀ y x : Int,0≤y ∧ y < q.f1 → 0≤x ∧ x < q.f0 → ((x > 0 ∧ inside y x q.f2[i] = true ∧ inside y (x - 1) q.f2[j] = true) ∨ (x > 0 ∧ inside y (x - 1) q.f2[i] = true ∧ inside y x q.f2[j] = true) ∨ (y > 0 ∧ inside y x q.f2[i] = true ∧ inside (y - 1) x q.f2[j] = true) ∨ (y > 0 ∧ inside (y - 1) x q.f2[i] = true ∧ inside y x q.f2[j] = true)) → touch (layV q).1 ((i : Int) + 1) (j + 1) ⟨x,y⟩ = true:=by
   intro y x hy hx h
   unfold touch cB1 cB2 cB3 cB4
   simp only [Bool.or_eq_true,Bool.and_eq_true,decide_eq_true_eq,beq_iff_eq]
   rcases h with ⟨h0,h1,h2⟩|⟨h0,h1,h2⟩|⟨h0,h1,h2⟩|⟨h0,h1,h2⟩
   ·
    have b2:=(cell_iff hv hj (by omega) (by omega)).2 h2
    exact Or.inl (Or.inl (Or.inl ⟨⟨h0,(cell_iff hv hi (by omega) (by omega)).2 h1⟩,by omega⟩))
   ·
    have b2:=(cell_iff hv hj (by omega) (by omega)).2 h2
    exact Or.inl (Or.inl (Or.inr ⟨⟨h0,(cell_iff hv hi (by omega) (by omega)).2 h1⟩,by omega⟩))
   ·
    have b2:=(cell_iff hv hj (by omega) (by omega)).2 h2
    exact Or.inl (Or.inr ⟨⟨h0,(cell_iff hv hi (by omega) (by omega)).2 h1⟩,by omega⟩)
   ·
    have b2:=(cell_iff hv hj (by omega) (by omega)).2 h2
    exact Or.inr ⟨⟨h0,(cell_iff hv hi (by omega) (by omega)).2 h1⟩,by omega⟩
  generalize q.f2[i] = a at *
  generalize q.f2[j] = b at *
  rintro (h|h)
  ·
   by_cases hs : b.f0 + b.f2 = a.f0
   · refine fin (max a.f1 b.f1) a.f0 (by omega) (by omega) (tt _ _ (by omega) (by omega) (Or.inl ⟨by omega,decide_eq_true (by omega),decide_eq_true (by omega)⟩))
   · refine fin (max a.f1 b.f1) b.f0 (by omega) (by omega) (tt _ _ (by omega) (by omega) (Or.inr (Or.inl ⟨by omega,decide_eq_true (by omega),decide_eq_true (by omega)⟩)))
  ·
   by_cases hs : b.f1 + b.f3 = a.f1
   · refine fin a.f1 (max a.f0 b.f0) (by omega) (by omega) (tt _ _ (by omega) (by omega) (Or.inr (Or.inr (Or.inl ⟨by omega,decide_eq_true (by omega),decide_eq_true (by omega)⟩))))
   · refine fin b.f1 (max a.f0 b.f0) (by omega) (by omega) (tt _ _ (by omega) (by omega) (Or.inr (Or.inr (Or.inr ⟨by omega,decide_eq_true (by omega),decide_eq_true (by omega)⟩))))
def besP (q : Sq) (idx : Nat) (i : Nat) : Bool := if h : idx < q.f2.length ∧ i < q.f2.length then (!decide (i = idx) && beB q.f2[idx] q.f2[i]) else false
theorem bok {q : Sq} (hv : sqB q = true) {idx : Nat} (hi : idx < q.f2.length) : BOk (layV q).1 q.f2.length (idx : Int) := by
 obtain ⟨w,v,l60⟩:=sqB_edges hv
 refine ⟨layV_len q,l60,by omega,by omega,fun y x hy hx=>?_⟩
 rw [sqB_cell hv hy hx]
 unfold coverAt
 have:=findFrom_lo (inside y x) q.f2 0
 omega
theorem specBeside (q : Sq) (hq : smallQ q) (hv : sqB q = true) (idx : Nat) (hi : idx < q.f2.length) : Ev (fun k => spec_l01Beside.f k [q] (idx : Int)) (pick (besP q idx) q.f2.length) := by
 obtain ⟨w,v,l60⟩:=sqB_edges hv
 unfold spec_l01Beside.f
 have hg:=bok hv hi
 refine Ev.bind (lay_val q hq) (Ev.ite_pos (layV_len q) (Ev.ite_pos (one_pos q) ?_))
 rw [rdQ,w64_succ (by omega),Int.toNat_natCast]
 refine Ev.ite_pos (by omega) (Ev.ite_pos (by omega) ?_)
 refine bes_rows q _ q.f2.length idx hg q.f0.toNat q.f1.toNat (by omega) (by omega) (by omega) (by omega) _ q.f1.toNat 0 _ (by omega) (by rw [List.length_replicate]) ?_
 refine Ev.eq_ (bes_out q _ idx (by rw [fold_len,List.length_replicate]) l60) (pick_congr fun i hin=>?_)
 rw [on_fold hg _ _ _ _ (by rw [List.length_replicate]) fun c hc=>by
  have:=allC_mem hv (show c ∈ allC q from hc)
  omega]
 have h0 : on (List.replicate (q.f2.length + 1) false) (i + 1) = false:=by
  unfold on
  rw [List.getD_eq_getElem?_getD,List.getElem?_replicate,if_pos (by omega)]
  rfl
 rw [h0,Bool.false_or]
 unfold besP
 rw [dif_pos ⟨hi,hin⟩]
 by_cases he : i = idx
 ·
  rw [decide_eq_true (show (i : Int) = (idx : Int) by omega),decide_eq_true he]
  simp
 ·
  rw [decide_eq_false (show ¬ (i : Int) = (idx : Int) by omega),decide_eq_false he,Bool.not_false,Bool.and_true,Bool.true_and]
  exact touch_iff hv hi hin (fun e=>he e.symm)
theorem are_val {q : Sq} (hq : smallQ q) (hv : sqB q = true) {idx i : Nat} (hi : idx < q.f2.length) (hin : i < q.f2.length) : impl_areBeside.f q.f2[idx].f0 q.f2[idx].f1 q.f2[idx].f2 q.f2[idx].f3 q.f2[i].f0 q.f2[i].f1 q.f2[i].f2 q.f2[i].f3 = some (besP q idx i) := by
 have hli:=of_decide_eq_true (sqB_lies hv _ (List.getElem_mem hi))
 have hlj:=of_decide_eq_true (sqB_lies hv _ (List.getElem_mem hin))
 have hsj:=hq.2.2.2 _ (List.getElem_mem hin)
 unfold besP
 rw [dif_pos ⟨hi,hin⟩]
 unfold impl_areBeside.f
 by_cases he : i = idx
 ·
  subst he
  simp
 ·
  have hne : ¬ (q.f2[idx].f0 = q.f2[i].f0 ∧ q.f2[idx].f1 = q.f2[i].f1 ∧ q.f2[idx].f2 = q.f2[i].f2 ∧ q.f2[idx].f3 = q.f2[i].f3):=by
   rintro ⟨e0,e1,e2,e3⟩
   refine he (one_in hv hin hi (y:=q.f2[i].f1) (x:=q.f2[i].f0) (decide_eq_true (by omega)) (decide_eq_true (by omega)))
  rw [decide_eq_false he,Bool.not_false,Bool.true_and]
  generalize q.f2[idx] = a at *
  generalize q.f2[i] = b at *
  rw [if_pos (by
   simp only [Bool.or_eq_true,Bool.not_eq_true',beq_eq_false_iff_ne,ne_eq]
   omega)]
  rw [i8w (a:=a.f0 - 1) ⟨by omega,by omega⟩,i8w (a:=a.f2 + 2) ⟨by omega,by omega⟩,i8w (a:=a.f1 - 1) ⟨by omega,by omega⟩,i8w (a:=a.f3 + 2) ⟨by omega,by omega⟩]
  have s1 : smallS ⟨a.f0 - 1,a.f1,a.f2 + 2,a.f3⟩:=⟨⟨show -128≤a.f0 - 1 by omega,show a.f0 - 1≤127 by omega⟩,⟨show -128≤a.f1 by omega,show a.f1≤127 by omega⟩,⟨show -128≤a.f2 + 2 by omega,show a.f2 + 2≤127 by omega⟩,⟨show -128≤a.f3 by omega,show a.f3≤127 by omega⟩⟩
  have s2 : smallS ⟨a.f0,a.f1 - 1,a.f2,a.f3 + 2⟩:=⟨⟨show -128≤a.f0 by omega,show a.f0≤127 by omega⟩,⟨show -128≤a.f1 - 1 by omega,show a.f1 - 1≤127 by omega⟩,⟨show -128≤a.f2 by omega,show a.f2≤127 by omega⟩,⟨show -128≤a.f3 + 2 by omega,show a.f3 + 2≤127 by omega⟩⟩
  have m1:=meets_val _ b s1 hsj
  have m2:=meets_val _ b s2 hsj
  simp only at m1 m2
  rw [m1,m2,Option.bind_some,Option.bind_some]
  unfold beB
  cases meets ⟨a.f0 - 1,a.f1,a.f2 + 2,a.f3⟩ b <;> simp
theorem implBeside (q : Sq) (hq : smallQ q) (hv : sqB q = true) (idx : Nat) (hi : idx < q.f2.length) : Ev (fun k => impl_Square_beside.f k q.f0 q.f1 q.f2 (idx : Int)) (pick (besP q idx) q.f2.length) := by
 obtain ⟨w,v,l60⟩:=sqB_edges hv
 unfold impl_Square_beside.f
 refine Ev.run (L:=fun k (s : List Int) (i : Nat)=>impl_Square_beside.l0 k (idx : Int) s q.f2 (q.f2.length : Int) (i : Int) q.f0 q.f1 q.f2) q.f2.length (fun i s=>pick (besP q idx) (i + 1)) (fun i s=>s = pick (besP q idx) i) _ ?_ ?_ (d:=q.f2.length) (i:=0) (s:=[]) (by omega) rfl
 ·
  rintro i s hin rfl
  refine ⟨rfl,fun r hr=>Ev.step (fun k=>impl_Square_beside.l0.eq_2 _ _ _ _ _ _ _ _ _) ?_⟩
  have hl:=pick_len (besP q idx) i
  rw [pick_succ] at hr
  rw [rdI_get hi,rdI_get hin,w64_succ (by omega)]
  refine Ev.ite_pos (by omega) (Ev.ite_pos (by omega) (Ev.ite_pos (by omega) (Ev.ite_pos (by omega) (Ev.ite_pos (by omega) (Ev.call (are_val hq hv hi hin) ?_)))))
  by_cases h1 : besP q idx i = true
  ·
   rw [if_pos h1] at hr
   exact Ev.ite_pos h1 (Ev.ite_pos (by omega) hr)
  ·
   rw [if_neg h1] at hr
   exact Ev.ite_neg h1 hr
 ·
  rintro s rfl
  exact Ev.step (fun k=>impl_Square_beside.l0.eq_2 _ _ _ _ _ _ _ _ _) (Ev.ite_neg (by omega) (Ev.now _))
end Go.Proofs.Ytljfjljeabcfgaa.Q

namespace Go.Proofs.Ytljfjljeabcfgaa.Q
open Go.RowKit Go.Proofs.YtljfjljeabcfgaaW.PrintWords Go.Proofs.YtljfjljeabcfgaaW.PrintLast Go.Proofs.YtljfjljeabcfgaaW.PrintMore
set_option linter.unusedVariables false
set_option linter.unusedSimpArgs false
namespace Pc
def nbs (q : Sq) : List (List Int) := (List.range q.f2.length).map fun i => pick (besP q i) q.f2.length
theorem pick_in {p : Nat → Bool} {n : Nat} : ∀ x ∈ pick p n, 0 ≤ x ∧ x < (n : Int) := by
 intro x hx
 unfold pick at hx
 obtain ⟨i,hi,rfl⟩:=List.mem_map.1 hx
 have:=List.mem_range.1 (List.mem_filter.1 hi).1
 omega
theorem nbs_fits {q : Sq} (h : q.f2.length ≤ 60) : fits q.f2.length (nbs q) := by
 refine ⟨by simp [nbs],h,fun r hr=>?_⟩
 obtain ⟨i,_,rfl⟩:=List.mem_map.1 hr
 exact ⟨Nat.le_trans (pick_len _ _) h,pick_in⟩
theorem nbs_row (q : Sq) {x : Int} (hx : 0 ≤ x ∧ x < (q.f2.length : Int)) : rowOf (nbs q) x = pick (besP q x.toNat) q.f2.length := by
 unfold rowOf nbs
 rw [List.getD_eq_getElem?_getD,List.getElem?_map,List.getElem?_range (by omega)]
 rfl
structure Rel (n : Nat) (p : Int) (o : List Int) (st : St) : Prop where
 len : o.length = n
 met : ∀ x : Int,0≤x → x < (n : Int) → (st.1 x = true ↔ rd o x ≠ 0)
 own : ∀ x : Int,0≤x → x < (n : Int) → (rd o x = p ↔ x ∈ st.2)
 range : ∀ x : Int,0≤x → x < (n : Int) → 0≤rd o x ∧ rd o x≤p
theorem rel_step {n : Nat} {p : Int} {o : List Int} {st : St} (hp : 1 ≤ p) (h : Rel n p o st) {x : Int} (hx : 0 ≤ x ∧ x < (n : Int)) (hz : rd o x = 0) : Rel n p (o.set x.toNat p) (step st x) := by
 have hm : ¬ st.1 x = true:=fun e=>(h.met x hx.1 hx.2).1 e hz
 unfold step
 rw [if_neg hm]
 have key : ∀ y : Int,0≤y → y < (n : Int) → rd (o.set x.toNat p) y = if y = x then p else rd o y:=fun y h0 h1=>rd_set_if hx.1 h0 (by rw [h.len];exact hx.2) p
 refine ⟨by rw [List.length_set];exact h.len,fun y h0 h1=>?_,fun y h0 h1=>?_,fun y h0 h1=>?_⟩
 ·
  rw [key y h0 h1]
  show Go.Mp.upd st.1 x true y = true ↔ _
  unfold Go.Mp.upd
  by_cases e : y = x
  ·
   rw [if_pos e,if_pos e]
   exact ⟨fun _=>by omega,fun _=>rfl⟩
  ·
   rw [if_neg e,if_neg e]
   exact h.met y h0 h1
 ·
  rw [key y h0 h1,List.mem_append,List.mem_singleton]
  by_cases e : y = x
  ·
   rw [if_pos e]
   exact ⟨fun _=>.inr e,fun _=>rfl⟩
  ·
   rw [if_neg e]
   exact ⟨fun h2=>.inl ((h.own y h0 h1).1 h2),fun h2=>(h.own y h0 h1).2 (h2.resolve_right e)⟩
 ·
  rw [key y h0 h1]
  have:=h.range y h0 h1
  split <;> omega
theorem rel_skip {n : Nat} {p : Int} {o : List Int} {st : St} (h : Rel n p o st) {x : Int} (hx : 0 ≤ x ∧ x < (n : Int)) (hz : rd o x ≠ 0) : step st x = st := by
 unfold step
 rw [if_pos ((h.met x hx.1 hx.2).2 hz)]
theorem sorted_pick {n : Nat} {p : Int} {o : List Int} {st : St} (h : Rel n p o st) (hi : Inv n st) : pick (fun i => decide (rd o (i : Int) = p)) n = sorted st.2 := by
 unfold sorted
 have hs : (st.2.mergeSort fun x y=>decide (x≤y)).Pairwise (fun a b=>a≤b):=by
  have:=List.pairwise_mergeSort (le:=fun x y : Int=>decide (x≤y)) (fun a b c h1 h2=>by simp at *;omega) (fun a b=>by simp;omega) st.2
  simpa using this
 have hp : (pick (fun i=>decide (rd o (i : Int) = p)) n).Pairwise (fun a b=>a < b):=by
  unfold pick
  rw [List.pairwise_map]
  exact (List.Pairwise.filter _ List.pairwise_lt_range).imp (fun h=>by omega)
 refine List.Perm.eq_of_pairwise (le:=fun a b=>a≤b) (fun a b _ _ h1 h2=>by omega) (hp.imp (fun h=>by omega)) hs ?_
 refine List.Perm.trans ?_ (List.mergeSort_perm _ _).symm
 refine (List.perm_ext_iff_of_nodup (hp.imp (fun h=>by omega)) hi.1).2 fun a=>?_
 unfold pick
 rw [List.mem_map]
 constructor
 ·
  rintro ⟨i,hi2,rfl⟩
  obtain ⟨h1,h2⟩:=List.mem_filter.1 hi2
  have:=List.mem_range.1 h1
  exact (h.own _ (by omega) (by omega)).1 (of_decide_eq_true h2)
 ·
  intro ha
  have hr:=(hi.2 a ha).1
  refine ⟨a.toNat,List.mem_filter.2 ⟨List.mem_range.2 (by omega),decide_eq_true ?_⟩,by omega⟩
  rw [show ((a.toNat : Nat) : Int) = a by omega]
  exact (h.own a hr.1 hr.2).2 ha
section
variable {q : Sq} (hq : smallQ q) (hv : sqB q = true)
theorem spec2 {out : List (List Int)} {i p : Int} {kk : Nat} {t : List Int} {st : St} {r : List (List Int) × Int} (hp : 1 ≤ p) (h60 : q.f2.length ≤ 60) (ht : t.length ≤ 60 ∧ ∀ x ∈ t, 0 ≤ x ∧ x < (q.f2.length : Int)) (hi : Inv q.f2.length st) (hkk : kk ≤ 60) :
  ∀ (d j : Nat) (o : List Int),j + d = t.length → Rel q.f2.length p o (rowS t st j) → (∀ o',Rel q.f2.length p o' (rowS t st t.length) → Ev (fun k=>spec_PiecesOf.l1 k out o' i p (rowS t st t.length).2 ((kk + 1 : Nat) : Int) q.f0 q.f1 q.f2) r) →
   Ev (fun k=>spec_PiecesOf.l2 k out o i p (rowS t st j).2 (kk : Int) t (j : Int) q.f0 q.f1 q.f2) r
 | 0,j,o,hj,hr,hk=>by
  obtain rfl : j = t.length:=by omega
  refine Ev.step (fun k=>spec_PiecesOf.l2.eq_2 _ _ _ _ _ _ _ _ _ _ _ _) (Ev.ite_neg (by omega) ?_)
  rw [w64_succ (by omega)]
  exact hk o hr
 | d + 1,j,o,hj,hr,hk=>by
  have hx:=ht.2 _ (rd_mem (l:=t) (j:=j) (by omega))
  have hl:=inv_len (inv_row hi ht.2 j (by omega))
  have hlen:=hr.len
  refine Ev.step (fun k=>spec_PiecesOf.l2.eq_2 _ _ _ _ _ _ _ _ _ _ _ _) (Ev.ite_pos (by omega) (Ev.ite_pos (ge0 _) (Ev.ite_pos hx.1 (Ev.ite_pos (by rw [hlen];exact hx.2) ?_))))
  rw [w64_succ (i:=j) (by omega)]
  by_cases c : rd o (rd t (j : Int)) = 0
  ·
   have hs:=rel_step hp hr hx c
   have e : rowS t st (j + 1) = step (rowS t st j) (rd t (j : Int)):=rfl
   have e2 : (rowS t st (j + 1)).2 = (rowS t st j).2 ++ [rd t (j : Int)]:=by
    rw [e]
    unfold step
    rw [if_neg (fun e=>(hr.met _ hx.1 hx.2).1 e c)]
   refine Ev.ite_pos c (Ev.ite_pos (by omega) ?_)
   rw [← e2]
   exact spec2 hp h60 ht hi hkk d (j + 1) _ (by omega) (by rw [e];exact hs) hk
  ·
   have e : rowS t st (j + 1) = rowS t st j:=rel_skip hr hx c
   refine Ev.ite_neg c ?_
   rw [← e]
   exact spec2 hp h60 ht hi hkk d (j + 1) o (by omega) (by rw [e];exact hr) hk
include hq hv
theorem spec1 {out : List (List Int)} {i p : Int} {r : List (List Int) × Int} (hp : 1 ≤ p) (h60 : q.f2.length ≤ 60) : ∀ (d kk : Nat) (st : St) (o : List Int), kk + d = 61 → Inv q.f2.length st → Rel q.f2.length p o st →
  (∀ o',Rel q.f2.length p o' (bfs (nbs q) d st kk) → Inv q.f2.length (bfs (nbs q) d st kk) → Ev (fun k=>spec_PiecesOf.l3 k out o' i p [] 0 q.f0 q.f1 q.f2) r) →
   Ev (fun k=>spec_PiecesOf.l1 k out o i p st.2 (kk : Int) q.f0 q.f1 q.f2) r
 | 0,kk,st,o,hd,hi,hr,hk=>by
  have hl:=inv_len hi
  exact Ev.step (fun k=>spec_PiecesOf.l1.eq_2 _ _ _ _ _ _ _ _ _ _) (Ev.ite_neg (by omega) (hk o hr hi))
 | d + 1,kk,st,o,hd,hi,hr,hk=>by
  have hl:=inv_len hi
  unfold bfs at hk
  by_cases c : kk < st.2.length
  ·
   rw [if_pos c] at hk
   have hx:=(hi.2 _ (rd_mem c)).1
   have hrow:=nbs_row q hx
   rw [hrow] at hk
   have hb:=specBeside q hq hv (rd st.2 (kk : Int)).toNat (by omega)
   rw [show (((rd st.2 (kk : Int)).toNat : Nat) : Int) = rd st.2 (kk : Int) by omega] at hb
   have ht : (pick (besP q (rd st.2 (kk : Int)).toNat) q.f2.length).length≤60 ∧ ∀ x ∈ pick (besP q (rd st.2 (kk : Int)).toNat) q.f2.length,0≤x ∧ x < (q.f2.length : Int):=⟨Nat.le_trans (pick_len _ _) h60,pick_in⟩
   generalize pick (besP q (rd st.2 (kk : Int)).toNat) q.f2.length = t at *
   refine Ev.step (fun k=>spec_PiecesOf.l1.eq_2 _ _ _ _ _ _ _ _ _ _) (Ev.ite_pos (by omega) (Ev.ite_pos (ge0 _) (Ev.bind hb ?_)))
   exact spec2 hp h60 ht hi (by omega) t.length 0 o (by omega) hr (fun o' hr'=>spec1 hp h60 d (kk + 1) _ o' (by omega) (inv_row hi ht.2 _ (Nat.le_refl _)) hr' hk)
  ·
   rw [if_neg c] at hk
   exact Ev.step (fun k=>spec_PiecesOf.l1.eq_2 _ _ _ _ _ _ _ _ _ _) (Ev.ite_neg (by omega) (hk o hr hi))
omit hq hv
theorem spec3 {out : List (List Int)} {p : Int} {i : Nat} {o : List Int} {r : List (List Int) × Int} (h60 : q.f2.length ≤ 60) (hl : o.length = q.f2.length) (ho : out.length ≤ 60) (hi : i < q.f2.length)
  (hk : Ev (fun k=>spec_PiecesOf.l0 k (out ++ [pick (fun x=>decide (rd o (x : Int) = p)) q.f2.length]) o ((i + 1 : Nat) : Int) q.f0 q.f1 q.f2) r) : ∀ (d k0 : Nat),k0 + d = q.f2.length →
   Ev (fun k=>spec_PiecesOf.l3 k out o (i : Int) p (pick (fun x=>decide (rd o (x : Int) = p)) k0) (k0 : Int) q.f0 q.f1 q.f2) r
 | 0,k0,hd=>by
  obtain rfl : k0 = q.f2.length:=by omega
  refine Ev.step (fun k=>spec_PiecesOf.l3.eq_2 _ _ _ _ _ _ _ _ _ _) (Ev.ite_neg (by omega) (Ev.ite_pos (by omega) ?_))
  rw [w64_succ (by omega)]
  exact hk
 | d + 1,k0,hd=>by
  have hpl:=pick_len (fun x=>decide (rd o (x : Int) = p)) k0
  have ih:=spec3 h60 hl ho hi hk d (k0 + 1) (by omega)
  rw [pick_succ] at ih
  refine Ev.step (fun k=>spec_PiecesOf.l3.eq_2 _ _ _ _ _ _ _ _ _ _) (Ev.ite_pos (by omega) (Ev.ite_pos (ge0 _) ?_))
  rw [w64_succ (by omega)]
  by_cases c : rd o (k0 : Int) = p
  ·
   rw [if_pos (decide_eq_true c)] at ih
   exact Ev.ite_pos c (Ev.ite_pos (by omega) ih)
  ·
   rw [if_neg (by simpa using c)] at ih
   exact Ev.ite_neg c ih
structure RelO (n : Nat) (o : List Int) (s : (Int → Bool) × List (List Int)) : Prop where
 len : o.length = n
 met : ∀ x : Int,0≤x → x < (n : Int) → (s.1 x = true ↔ rd o x ≠ 0)
 range : ∀ x : Int,0≤x → x < (n : Int) → 0≤rd o x ∧ rd o x≤s.2.length
include hq hv
theorem spec0 (h60 : q.f2.length ≤ 60) : ∀ (d i : Nat) (o : List Int), i + d = q.f2.length → RelO q.f2.length o (outer (nbs q) i) →
  Ev (fun k=>spec_PiecesOf.l0 k (outer (nbs q) i).2 o (i : Int) q.f0 q.f1 q.f2) ((outer (nbs q) q.f2.length).2,0)
 | 0,i,o,hd,hr=>by
  obtain rfl : i = q.f2.length:=by omega
  exact Ev.step (fun k=>spec_PiecesOf.l0.eq_2 _ _ _ _ _ _ _) (Ev.ite_neg (by omega) (Ev.now _))
 | d + 1,i,o,hd,hr=>by
  have hol:=outer_len (nbs q) i
  have hlen:=hr.len
  refine Ev.step (fun k=>spec_PiecesOf.l0.eq_2 _ _ _ _ _ _ _) (Ev.ite_pos (by omega) (Ev.ite_pos (ge0 _) (Ev.ite_pos (by omega) ?_)))
  rw [w64_succ (i:=i) (by omega),w64_succ (i:=(outer (nbs q) i).2.length) (by omega),Int.toNat_natCast]
  have hm:=hr.met (i : Int) (by omega) (by omega)
  by_cases c : rd o (i : Int) = 0
  ·
   have hn : ¬ (outer (nbs q) i).1 (i : Int) = true:=fun e=>hm.1 e c
   have e : outer (nbs q) (i + 1) = ((bfs (nbs q) 61 (start (outer (nbs q) i).1 i) 0).1,(outer (nbs q) i).2 ++ [sorted (bfs (nbs q) 61 (start (outer (nbs q) i).1 i) 0).2]):=by rw [outer,if_neg hn]
   have hst : Rel q.f2.length (((outer (nbs q) i).2.length + 1 : Nat) : Int) (o.set i (((outer (nbs q) i).2.length + 1 : Nat) : Int)) (start (outer (nbs q) i).1 i):=by
    have key : ∀ y : Int,0≤y → y < (q.f2.length : Int) → rd (o.set i (((outer (nbs q) i).2.length + 1 : Nat) : Int)) y = if y = (i : Int) then (((outer (nbs q) i).2.length + 1 : Nat) : Int) else rd o y:=fun y h0 h1=>by
     have:=rd_set_if (g:=o) (i:=(i : Int)) (j:=y) (by omega) h0 (by rw [hlen];omega) (((outer (nbs q) i).2.length + 1 : Nat) : Int)
     rw [Int.toNat_natCast] at this
     exact this
    refine ⟨by rw [List.length_set];exact hlen,fun y h0 h1=>?_,fun y h0 h1=>?_,fun y h0 h1=>?_⟩
    ·
     rw [key y h0 h1]
     show Go.Mp.upd (outer (nbs q) i).1 (i : Int) true y = true ↔ _
     unfold Go.Mp.upd
     by_cases e : y = (i : Int)
     ·
      rw [if_pos e,if_pos e]
      exact ⟨fun _=>by omega,fun _=>rfl⟩
     ·
      rw [if_neg e,if_neg e]
      exact hr.met y h0 h1
    ·
     rw [key y h0 h1]
     show _ ↔ y ∈ [(i : Int)]
     rw [List.mem_singleton]
     have:=hr.range y h0 h1
     by_cases e : y = (i : Int)
     ·
      rw [if_pos e]
      exact ⟨fun _=>e,fun _=>rfl⟩
     ·
      rw [if_neg e]
      exact ⟨fun h2=>by omega,fun h2=>absurd h2 e⟩
    ·
     rw [key y h0 h1]
     have:=hr.range y h0 h1
     split <;> omega
   refine Ev.ite_pos c ?_
   show Ev (fun k=>spec_PiecesOf.l1 k (outer (nbs q) i).2 (o.set i (((outer (nbs q) i).2.length + 1 : Nat) : Int)) (i : Int) (((outer (nbs q) i).2.length + 1 : Nat) : Int) (start (outer (nbs q) i).1 i).2 ((0 : Nat) : Int) q.f0 q.f1 q.f2) _
   refine spec1 hq hv (by omega) h60 61 0 _ _ (by omega) (inv_start _ (by omega)) hst (fun o' hr' hi'=>?_)
   have hsp:=sorted_pick hr' hi'
   refine spec3 h60 hr'.len (by omega) (by omega) ?_ q.f2.length 0 (by omega)
   rw [hsp]
   have ih:=spec0 h60 d (i + 1) o' (by omega) (by
    rw [e]
    refine ⟨hr'.len,hr'.met,fun y h0 h1=>?_⟩
    have:=hr'.range y h0 h1
    rw [List.length_append,List.length_singleton]
    exact this)
   rw [e] at ih
   exact ih
  ·
   have e : outer (nbs q) (i + 1) = outer (nbs q) i:=by rw [outer,if_pos (hm.2 c)]
   refine Ev.ite_neg c ?_
   have ih:=spec0 h60 d (i + 1) o (by omega) (by rw [e];exact hr)
   rw [e] at ih
   exact ih
end
def ansP (q : Sq) : List (List Int) × Int := if sqB q = true then ((outer (nbs q) q.f2.length).2, 0) else ([], 1)
theorem spec_val (q : Sq) (hq : smallQ q) : Ev (fun k => spec_PiecesOf.f k q.f0 q.f1 q.f2) (ansP q) := by
 unfold spec_PiecesOf.f ansP
 refine Ev.bind (specOk q hq) ?_
 by_cases hv : sqB q = true
 ·
  obtain ⟨-,-,h60⟩:=sqB_edges hv
  rw [if_pos hv]
  refine Ev.ite_pos hv (Ev.ite_pos (by omega) (Ev.ite_pos (by omega) ?_))
  rw [Int.toNat_natCast]
  refine spec0 hq hv h60 q.f2.length 0 _ (by omega) ⟨by simp,fun x h0 h1=>?_,fun x h0 h1=>?_⟩
  ·
   have e : rd (List.replicate q.f2.length (0 : Int)) x = 0:=by
    unfold rd
    rw [List.getD_eq_getElem?_getD,List.getElem?_replicate]
    split <;> rfl
   rw [e]
   exact ⟨(fun h=>Bool.noConfusion (show false = true from h)),fun h=>absurd rfl h⟩
  ·
   have e : rd (List.replicate q.f2.length (0 : Int)) x = 0:=by
    unfold rd
    rw [List.getD_eq_getElem?_getD,List.getElem?_replicate]
    split <;> rfl
   rw [e]
   omega
 ·
  rw [if_neg hv]
  exact Ev.ite_neg hv (Ev.now _)
theorem ev_all {n : Nat} {g : Nat → Nat → Option (List Int)} {v : Nat → List Int} (h : ∀ i, i < n → Ev (fun k => g k i) (v i)) : ∃ N, ∀ k, N ≤ k → ∀ i, i < n → g k i = some (v i) := by
 induction n with
 | zero=>exact ⟨0,fun _ _ i hi=>by omega⟩
 | succ n ih =>
  obtain ⟨N,hN⟩:=ih (fun i hi=>h i (by omega))
  obtain ⟨M,hM⟩:=h n (by omega)
  refine ⟨max N M,fun k hk i hi=>?_⟩
  by_cases e : i = n
  ·
   subst e
   exact hM k (by omega)
  · exact hN k (by omega) i (by omega)
theorem impl_val (q : Sq) (hq : smallQ q) : Ev (fun k => impl_PiecesOf.f k q.f0 q.f1 q.f2) (ansP q) := by
 unfold impl_PiecesOf.f ansP
 refine Ev.bind (implValid q hq) ?_
 by_cases hv : sqB q = true
 ·
  obtain ⟨-,-,h60⟩:=sqB_edges hv
  rw [if_pos hv]
  refine Ev.ite_pos hv ?_
  obtain ⟨N,hN⟩:=ev_all (g:=fun k i=>impl_Square_beside.f k q.f0 q.f1 q.f2 ((i : Nat) : Int)) (v:=fun i=>pick (besP q i) q.f2.length) (n:=q.f2.length) (fun i hi=>implBeside q hq hv i hi)
  refine ⟨N,fun k hk=>?_⟩
  have e1 : tab k q.f0 q.f1 q.f2 = nbs q:=List.map_congr_left fun i hi=>by rw [hN k hk i (List.mem_range.1 hi)];rfl
  have e2 : told k q.f0 q.f1 q.f2 = true:=List.all_eq_true.2 fun i hi=>by rw [hN k hk i (List.mem_range.1 hi)];rfl
  show (if told k q.f0 q.f1 q.f2 = true ∧ fits q.f2.length (tab k q.f0 q.f1 q.f2) then some ((outer (tab k q.f0 q.f1 q.f2) q.f2.length).2,(0 : Int)) else none) = _
  rw [e1,if_pos ⟨e2,nbs_fits h60⟩]
 ·
  rw [if_neg hv]
  exact Ev.ite_neg hv (Ev.now _)
end Pc
end Go.Proofs.Ytljfjljeabcfgaa.Q

namespace Go.Proofs.Ytljfjljeabcfgaa.Q
open Go.RowKit Go.Proofs.YtljfjljeabcfgaaW.PrintWords Go.Proofs.YtljfjljeabcfgaaW.PrintLast Go.Proofs.YtljfjljeabcfgaaW.PrintMore
theorem eqInts (l : List Int) (h : l.length ≤ 4611686018427387904) : Ev (fun k => laws_eqInt64S.f k l l) true := by
 unfold laws_eqInt64S.f
 refine Ev.ite_pos rfl ?_
 refine Ev.run (L:=fun k (_ : Unit) (i : Nat)=>laws_eqInt64S.l0 k l l i) l.length (fun _ s=>s) (fun _ _=>True) true ?_ ?_ (d:=l.length) (i:=0) (s:=()) (by omega) trivial
 ·
  rintro i s hi _
  refine ⟨trivial,fun r hr=>Ev.step (fun k=>laws_eqInt64S.l0.eq_2 _ _ _ _) ?_⟩
  refine Ev.ite_pos (by omega) (Ev.ite_pos (ge0 _) (Ev.ite_pos (by omega) (Ev.ite_pos rfl ?_)))
  rw [w64_succ (by omega)]
  exact hr
 ·
  intro s _
  exact Ev.step (fun k=>laws_eqInt64S.l0.eq_2 _ _ _ _) (Ev.ite_neg (by omega) (Ev.now true))
end Go.Proofs.Ytljfjljeabcfgaa.Q

namespace Go.Proofs.Ytljfjljeabcfgaa.Q
open Go.RowKit Go.Proofs.YtljfjljeabcfgaaW.PrintWords Go.Proofs.YtljfjljeabcfgaaW.PrintLast Go.Proofs.YtljfjljeabcfgaaW.PrintMore
set_option linter.unusedVariables false
set_option linter.unusedSimpArgs false
namespace Pc
theorem inv_bfs {n : Nat} {tab : List (List Int)} (h : fits n tab) : ∀ (d kk : Nat) (st : St), Inv n st → Inv n (bfs tab d st kk)
 | 0,_,_,hi=>hi
 | d + 1,kk,st,hi=>by
  unfold bfs
  by_cases c : kk < st.2.length
  ·
   rw [if_pos c]
   have hx:=(hi.2 _ (rd_mem c)).1
   exact inv_bfs h d (kk + 1) _ (inv_row hi (h.2.2 _ (row_fits h hx)).2 _ (Nat.le_refl _))
  ·
   rw [if_neg c]
   exact hi
theorem outer_rows {n : Nat} {tab : List (List Int)} (h : fits n tab) : ∀ i, i ≤ n → ∀ r ∈ (outer tab i).2, r.length ≤ 60
 | 0,_,r,hr=>by cases hr
 | i + 1,hi,r,hr=>by
  unfold outer at hr
  split at hr
  · exact outer_rows h i (by omega) r hr
  ·
   rcases List.mem_append.1 hr with hr|hr
   · exact outer_rows h i (by omega) r hr
   ·
    rw [List.mem_singleton] at hr
    subst hr
    have:=inv_len (inv_bfs h 61 0 _ (inv_start (n:=n) (outer tab i).1 (i:=i) (by omega)))
    have h60:=h.2.1
    unfold sorted
    rw [List.length_mergeSort]
    omega
def small_ (l : List (List Int)) : Prop := l.length ≤ 60 ∧ ∀ r ∈ l, r.length ≤ 60
theorem ans_small (q : Sq) : small_ (ansP q).1 := by
 unfold ansP
 by_cases hv : sqB q = true
 ·
  obtain ⟨-,-,h60⟩:=sqB_edges hv
  rw [if_pos hv]
  exact ⟨Nat.le_trans (outer_len _ _) h60,outer_rows (nbs_fits h60) _ (Nat.le_refl _)⟩
 ·
  rw [if_neg hv]
  exact ⟨Nat.zero_le _,fun r hr=>by cases hr⟩
theorem rd7_get {l : List (List Int)} {i : Nat} (h : i < l.length) : rd_L7 l (i : Int) = l[i] := by
 unfold rd_L7
 rw [Int.toNat_natCast,List.getD_eq_getElem?_getD,List.getElem?_eq_getElem h]
 rfl
theorem eq_rows (l : List (List Int)) (h : small_ l) : Ev (fun k => laws_eqInt64SS.f k l l) true := by
 unfold laws_eqInt64SS.f
 have hl:=h.1
 refine Ev.ite_pos rfl ?_
 refine Ev.run (L:=fun k (_ : Unit) (i : Nat)=>laws_eqInt64SS.l0 k l l i) l.length (fun _ s=>s) (fun _ _=>True) true ?_ ?_ (d:=l.length) (i:=0) (s:=()) (by omega) trivial
 ·
  rintro i s hi _
  refine ⟨trivial,fun r hr=>Ev.step (fun k=>laws_eqInt64SS.l0.eq_2 _ _ _ _) ?_⟩
  have hr2:=h.2 _ (List.getElem_mem hi)
  refine Ev.ite_pos (by omega) (Ev.ite_pos (ge0 _) (Ev.ite_pos (by omega) ?_))
  rw [rd7_get hi,w64_succ (by omega)]
  exact Ev.bind (eqInts _ (by omega)) (Ev.ite_pos rfl hr)
 ·
  intro s _
  exact Ev.step (fun k=>laws_eqInt64SS.l0.eq_2 _ _ _ _) (Ev.ite_neg (by omega) (Ev.now true))
theorem upto_le {l : List (List Int)} (h : ∀ r ∈ l, r.length ≤ 60) (k : Int) : ∀ j, (laws_markInt64SS.upto l k j).2 ≤ k + 60 * (j : Int)
 | 0=>by show k≤_;omega
 | j + 1=>by
  have ih:=upto_le h k j
  have hr : (l.getD j []).length≤60:=by
   rw [List.getD_eq_getElem?_getD]
   by_cases hj : j < l.length
   ·
    rw [List.getElem?_eq_getElem hj]
    exact h _ (List.getElem_mem hj)
   ·
    rw [List.getElem?_eq_none (by omega)]
    exact Nat.zero_le _
  show (laws_markInt64SS.upto l k j).2 + _≤_
  omega
theorem upto_near (l : List (List Int)) (k : Int) (j : Nat) (hj : j < l.length) : ∀ m, j < m → (laws_markInt64SS.upto l k m).1[j]? = some (laws_markInt64SS.marks (laws_markInt64SS.upto l k j).2 (l.getD j []).length)
 | 0,h=>by omega
 | m + 1,h=>by
  rw [laws_markInt64SS.upto]
  by_cases e : m = j
  ·
   subst e
   rw [List.getElem?_set_self (by rw [laws_markInt64SS.upto_len];exact hj)]
  ·
   rw [List.getElem?_set_ne e]
   exact upto_near l k j hj m (by omega)
theorem mark_val (l : List (List Int)) (h : small_ l) : laws_markInt64SS.f l 1 = some (laws_markInt64SS.upto l 1 l.length).2 := by
 have:=upto_le h.2 1 l.length
 have hl:=h.1
 unfold laws_markInt64SS.f
 rw [if_pos ⟨by omega,by omega,by omega⟩]
theorem marks_rd (a : Int) : ∀ (n j : Nat), j < n → rd (laws_markInt64SS.marks a n) (j : Int) = a + j
 | 0,j,h=>by omega
 | n + 1,0,h=>by
  show a = a + ((0 : Nat) : Int)
  omega
 | n + 1,j + 1,h=>by
  have ih:=marks_rd (a + 1) n j (by omega)
  rw [rd_get (by rw [laws_markInt64SS.marks_len];omega)] at ih ⊢
  show (laws_markInt64SS.marks (a + 1) n)[j]'(by rw [laws_markInt64SS.marks_len];omega) = _
  rw [ih]
  omega
theorem held_marks (a : Int) (n : Nat) (h0 : 0 ≤ a) (h1 : a + n ≤ 1000000) : Ev (fun k => laws_heldInt64S.f k (laws_markInt64SS.marks a n) a) (a + (n : Int)) := by
 unfold laws_heldInt64S.f
 have hm:=laws_markInt64SS.marks_len a n
 have h2:=Ev.run (L:=fun k (_ : Unit) (i : Nat)=>laws_heldInt64S.l0 k (laws_markInt64SS.marks a n) (a + (i : Int)) i) n (fun _ s=>s) (fun _ _=>True) (a + (n : Int)) ?_ ?_ (d:=n) (i:=0) (s:=()) (by omega) trivial
 · simpa using h2
 ·
  rintro i s hi _
  refine ⟨trivial,fun r hr=>Ev.step (fun k=>laws_heldInt64S.l0.eq_2 _ _ _ _) ?_⟩
  refine Ev.ite_pos (by omega) (Ev.ite_pos (ge0 _) (Ev.ite_pos (marks_rd a n i hi) ?_))
  rw [w64_succ (by omega),w64 (by omega) (by omega),show a + (i : Int) + 1 = a + ((i + 1 : Nat) : Int) by omega]
  exact hr
 ·
  intro s _
  exact Ev.step (fun k=>laws_heldInt64S.l0.eq_2 _ _ _ _) (Ev.ite_neg (by omega) (Ev.now _))
theorem held_rows (l : List (List Int)) (h : small_ l) : Ev (fun k => laws_heldInt64SS.f k (laws_markInt64SS.rows l 1) 1) (laws_markInt64SS.upto l 1 l.length).2 := by
 unfold laws_heldInt64SS.f
 have hm:=laws_markInt64SS.rows_len l 1
 have hl:=h.1
 refine Ev.run (L:=fun k (_ : Unit) (i : Nat)=>laws_heldInt64SS.l0 k (laws_markInt64SS.rows l 1) (laws_markInt64SS.upto l 1 i).2 i) l.length (fun _ s=>s) (fun _ _=>True) _ ?_ ?_ (d:=l.length) (i:=0) (s:=()) (by omega) trivial
 ·
  rintro i s hi _
  refine ⟨trivial,fun r hr=>Ev.step (fun k=>laws_heldInt64SS.l0.eq_2 _ _ _ _) ?_⟩
  have e:=upto_near l 1 i hi l.length hi
  have hu:=upto_le h.2 1 (i + 1)
  have hg:=laws_markInt64SS.upto_ge l 1 0 i
  rw [Nat.zero_add] at hg
  have h0 : (laws_markInt64SS.upto l 1 0).2 = 1:=rfl
  have e2 : (laws_markInt64SS.upto l 1 (i + 1)).2 = (laws_markInt64SS.upto l 1 i).2 + ((l.getD i []).length : Nat):=rfl
  have e3 : rd_L7 (laws_markInt64SS.rows l 1) (i : Int) = laws_markInt64SS.marks (laws_markInt64SS.upto l 1 i).2 (l.getD i []).length:=by
   rw [rd7_get (by omega)]
   have : (laws_markInt64SS.rows l 1)[i]? = some (laws_markInt64SS.marks (laws_markInt64SS.upto l 1 i).2 (l.getD i []).length):=e
   rw [List.getElem?_eq_getElem (by omega)] at this
   exact Option.some.inj this
  refine Ev.ite_pos (by omega) (Ev.ite_pos (ge0 _) ?_)
  rw [e3,w64_succ (by omega)]
  refine Ev.bind (held_marks _ _ (by omega) (by omega)) (Ev.ite_neg (by omega) ?_)
  rw [← e2]
  exact hr
 ·
  intro s _
  exact Ev.step (fun k=>laws_heldInt64SS.l0.eq_2 _ _ _ _) (Ev.ite_neg (by omega) (Ev.now _))
end Pc
end Go.Proofs.Ytljfjljeabcfgaa.Q

namespace Go.Proofs.Ytljfjljeabcfgaa.Q
open Go.RowKit Go.Proofs.YtljfjljeabcfgaaW.PrintWords Go.Proofs.YtljfjljeabcfgaaW.PrintLast Go.Proofs.YtljfjljeabcfgaaW.PrintMore
set_option linter.unusedVariables false
set_option linter.unusedSimpArgs false
def Pure.FnExactPiecesOf : Prop := ∀ (x0 : S25), wf25 x0 → ∃ k, laws_FnExactPiecesOf.f k x0.f0 x0.f1 x0.f2 = some true
theorem pure_FnExactPiecesOf : Pure.FnExactPiecesOf := by
  intro x hx
  have hml:=hx.2.2.1
  unfold maxLen at hml
  refine Ev.rounds (g:=fun k=>laws_FnExactPiecesOf.f k x.f0 x.f1 x.f2) ?_
  unfold laws_FnExactPiecesOf.f
  refine Ev.call (szSq x hml) ?_
  by_cases h : (1048576 : Int) < x.f2.length
  · rw [if_pos h]
    exact Ev.ite_pos (by decide) (Ev.now _)
  · rw [if_neg h]
    have hq:=sq_small hx (by omega)
    have hl2 : (sqOf x).f2.length≤1048576:=hq.2.2.1
    have hS:=Pc.spec_val (sqOf x) hq
    have hI:=Pc.impl_val (sqOf x) hq
    have hs:=Pc.ans_small (sqOf x)
    generalize Pc.ansP (sqOf x) = R at *
    have hne : (R.2 != R.2) = false:=by simp
    have heq:=Pc.eq_rows R.1 hs
    have hmk:=Pc.mark_val R.1 hs
    have hhd:=Pc.held_rows R.1 hs
    have hge:=laws_markInt64SS.upto_ge R.1 1 0 R.1.length
    rw [Nat.zero_add] at hge
    have h0 : (laws_markInt64SS.upto R.1 1 0).2 = 1:=rfl
    generalize (laws_markInt64SS.upto R.1 1 R.1.length).2 = S at *
    refine Ev.ite_neg (by omega) (Ev.bind (toSq x (by omega)) (Ev.bind hS (Ev.bind (toSq x (by omega)) (Ev.bind hI (Ev.bind heq (Ev.ite_pos rfl ?_))))))
    rw [hne]
    refine Ev.step (fun k=>laws_FnExactPiecesOf.j0.eq_2 _ _ _ _ _ _ _ _ _ _ _ _) (Ev.ite_neg (by decide) (Ev.bind (toSq x (by omega)) (Ev.bind (eqSq (sqOf x) (by omega)) (Ev.ite_pos rfl (Ev.bind (markSq (sqOf x) (by omega)) (Ev.ite_neg (by omega) (Ev.bind heq (Ev.ite_pos rfl ?_))))))))
    rw [hne]
    refine Ev.step (fun k=>laws_FnExactPiecesOf.j1.eq_2 _ _ _ _ _ _ _ _) (Ev.ite_neg (by decide) (Ev.call hmk (Ev.bind hhd (Ev.ite_neg (by omega) (Ev.ite_pos rfl (Ev.bind (toSq x (by omega)) (Ev.bind hI (Ev.bind heq (Ev.ite_pos rfl ?_)))))))))
    rw [hne]
    exact Ev.step (fun k=>laws_FnExactPiecesOf.j2.eq_2 _ _ _ _) (Ev.ite_neg (by decide) (Ev.bind hhd (Ev.ite_neg (by omega) (Ev.ite_pos rfl (Ev.now _)))))
end Go.Proofs.Ytljfjljeabcfgaa.Q

