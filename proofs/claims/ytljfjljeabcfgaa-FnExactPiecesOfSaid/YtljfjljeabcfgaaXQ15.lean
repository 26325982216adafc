-- Trimmed by a program.
import Derived.Test.YtljfjljeabcfgaaXQ0
import Derived.Ground.SlgnProg
import Derived.Shelf.SortG.Plain
import Derived.Shelf.SortG.SortNone
namespace Go.Proofs.Ytljfjljeabcfgaa.Q
open RowKit YtljfjljeabcfgaaW.PrintWords YtljfjljeabcfgaaW.PrintLast YtljfjljeabcfgaaW.PrintMore
attribute [local go_sem] max2_int min2_int max_two min_two max_three min_three max_four min_four
set_option linter.unusedVariables false
set_option linter.unusedSimpArgs false
section
open Go.Shelf
def slices_Sort_int64_int64_lays_ren : Go.Shelf.Ren := ⟨fun | 53 => 20 | 64 => 35 | 63 => 34 | 78 => 53 | 79 => 54 | 70 => 44 | 71 => 45 | 72 => 46 | 73 => 47 | 74 => 48 | 75 => 49 | 59 => 50 | 76 => 51 | 77 => 52 | 88 => 58 | 89 => 59 | 90 => 60 | 91 => 61 | 92 => 62 | 68 => 63 | 96 => 65 | n => n, fun | 22 => 43 | 23 => 2 | 3 => 3 | 51 => 72 | 0 => 0 | 67 => 90 | 69 => 92 | 4 => 4 | 61 => 82 | 60 => 81 | 44 => 87 | 5 => 5 | 9 => 9 | 75 => 95 | 79 => 99 | 83 => 102 | 84 => 103 | n => n, fun | n => n⟩
theorem slices_Sort_int64_int64_lays : Go.Proofs.SlLaysN.n53 Try.prog slices_Sort_int64_int64_lays_ren := {
 mixed:=by kernel_rfl
 f53:=⟨Try.f20.name,by decide,Try.func20.trans (congrArg some (by kernel_rfl))⟩
 f59:=⟨Try.f50.name,by decide,Try.func50.trans (congrArg some (by kernel_rfl))⟩
 f63:=⟨Try.f34.name,by decide,Try.func34.trans (congrArg some (by kernel_rfl))⟩
 f64:=Try.func35.trans (congrArg some (by kernel_rfl))
 f68:=⟨Try.f63.name,by decide,Try.func63.trans (congrArg some (by kernel_rfl))⟩
 f70:=⟨Try.f44.name,by decide,Try.func44.trans (congrArg some (by kernel_rfl))⟩
 f71:=⟨Try.f45.name,by decide,Try.func45.trans (congrArg some (by kernel_rfl))⟩
 f72:=⟨Try.f46.name,by decide,Try.func46.trans (congrArg some (by kernel_rfl))⟩
 f73:=⟨Try.f47.name,by decide,Try.func47.trans (congrArg some (by kernel_rfl))⟩
 f74:=⟨Try.f48.name,by decide,Try.func48.trans (congrArg some (by kernel_rfl))⟩
 f75:=⟨Try.f49.name,by decide,Try.func49.trans (congrArg some (by kernel_rfl))⟩
 f76:=⟨Try.f51.name,by decide,Try.func51.trans (congrArg some (by kernel_rfl))⟩
 f77:=⟨Try.f52.name,by decide,Try.func52.trans (congrArg some (by kernel_rfl))⟩
 f78:=Try.func53.trans (congrArg some (by kernel_rfl))
 f79:=Try.func54.trans (congrArg some (by kernel_rfl))
 f88:=⟨Try.f58.name,by decide,Try.func58.trans (congrArg some (by kernel_rfl))⟩
 f89:=Try.func59.trans (congrArg some (by kernel_rfl))
 f90:=Try.func60.trans (congrArg some (by kernel_rfl))
 f91:=⟨Try.f61.name,by decide,Try.func61.trans (congrArg some (by kernel_rfl))⟩
 f92:=⟨Try.f62.name,by decide,Try.func62.trans (congrArg some (by kernel_rfl))⟩
 f96:=⟨Try.f65.name,by decide,Try.func65.trans (congrArg some (by kernel_rfl))⟩
 t0:=Try.underlying0
 a0:=Try.isAgg0
 z0:=Try.sizeOf0
 v0:=Try.zeroValue0
 t3:=Try.underlying3
 a3:=Try.isAgg3
 z3:=Try.sizeOf3
 v3:=Try.zeroValue3
 t4:=Try.underlying4
 a4:=Try.isAgg4
 z4:=Try.sizeOf4
 v4:=Try.zeroValue4
 t5:=Try.underlying5
 a5:=Try.isAgg5
 z5:=Try.sizeOf5
 v5:=Try.zeroValue5
 t9:=Try.underlying9
 a9:=Try.isAgg9
 z9:=Try.sizeOf9
 v9:=Try.zeroValue9
 t22:=Try.underlying43
 a22:=Try.isAgg43
 z22:=Try.sizeOf43
 v22:=Try.zeroValue43
 t23:=Try.underlying2
 a23:=Try.isAgg2
 z23:=Try.sizeOf2
 v23:=Try.zeroValue2
 t44:=Try.underlying87
 a44:=Try.isAgg87
 z44:=Try.sizeOf87
 v44:=Try.zeroValue87
 t51:=Try.underlying72
 a51:=Try.isAgg72
 z51:=Try.sizeOf72
 v51:=Try.zeroValue72
 t60:=Try.underlying81
 a60:=Try.isAgg81
 z60:=Try.sizeOf81
 v60:=Try.zeroValue81
 t61:=Try.underlying82
 a61:=Try.isAgg82
 z61:=Try.sizeOf82
 v61:=Try.zeroValue82
 t67:=Try.underlying90
 a67:=Try.isAgg90
 z67:=Try.sizeOf90
 v67:=Try.zeroValue90
 t69:=Try.underlying92
 a69:=Try.isAgg92
 z69:=Try.sizeOf92
 v69:=Try.zeroValue92
 t75:=Try.underlying95
 a75:=Try.isAgg95
 z75:=Try.sizeOf95
 v75:=Try.zeroValue95
 t79:=Try.underlying99
 a79:=Try.isAgg99
 z79:=Try.sizeOf99
 v79:=Try.zeroValue99
 t83:=Try.underlying102
 a83:=Try.isAgg102
 z83:=Try.sizeOf102
 v83:=Try.zeroValue102
 t84:=Try.underlying103
 a84:=Try.isAgg103
 z84:=Try.sizeOf103
 v84:=Try.zeroValue103 }
end
theorem slices_Sort_int64_int64.holds {e : Nat} {w : World} {base : Nat} {ok : Nat → Prop} {g n cap : Nat} {l : List Int} (ho : Kd.R (Kd.int .i64) e w base ok (.slice (some ⟨g, 0, none⟩) n cap) l) :
  Go.Sort.Holds (Value.int .i64) w g 0 l.toArray ∧ g < w.heap.size ∧ n = l.length ∧ n≤cap:=by
 obtain ⟨hok,inner,⟨hlen,hr⟩,hreps⟩:=ho
 rcases hr with ⟨hv,_⟩|⟨g',cap',cur,hv,hb,hh,hn,_,hs,htk⟩
 · cases hv
 ·
  cases hv
  have hin : ∀ j,j < l.length → cur[j]? = some (.int .i64 (l[j]!)):=by
   intro j hj;have h1:=hreps.2 j l[j]! (by rw [List.getElem?_eq_getElem hj];simp [hj]);have h2 : (inner.drop (j * 1)).take 1 = [.int .i64 l[j]!]:=h1;have h3 : inner[j]? = some (.int .i64 l[j]!):=by
    have h4:=congrArg (fun l=>l[0]?) h2
    simpa [List.getElem?_take,List.getElem?_drop] using h4
   rw [← htk,List.getElem?_take_of_lt (by show j < l.length * 1;omega)] at h3
   simpa using h3
  exact ⟨fun j hj=>by
   have hj' : j < l.length:=by simpa using hj
   rw [Nat.zero_add];refine ⟨?_,kF_ hh j⟩;rw [kC_ hh,hin j hj']
   simp [hj'],kL_ hh,rfl,hn⟩
theorem slices_Sort_int64_int64.left {e : Nat} {w0 w : World} {ok : Nat → Prop} {g n cap : Nat} {l : List Int} (ho : Kd.R (Kd.int .i64) e w w0.heap.size ok (.slice (some ⟨g, 0, none⟩) n cap) l)
  (hB : Below w0.heap.size w0 w) (q : Nat) (os : Array Obj) (dd : List Int) (hsz : dd.length = l.length) (m : Nat) (hm : m≤l.length) (fl : List Int) (hfl : fl = dd.take m) :
  Kd.R (Kd.int .i64) e (Go.Sort.grow (Go.Sort.putRow (Value.int .i64) (Go.Sort.ahead w q) g 0 dd.toArray) os) w0.heap.size (fun k_=>(ok k_ ∨ w.heap.size≤k_)) (.slice (some ⟨g,0,none⟩) m cap) fl ∧ Below w0.heap.size w0 (Go.Sort.grow (Go.Sort.putRow (Value.int .i64) (Go.Sort.ahead w q) g 0 dd.toArray) os) ∧ Kept w (Go.Sort.grow (Go.Sort.putRow (Value.int .i64) (Go.Sort.ahead w q) g 0 dd.toArray) os) (fun k_=>ok k_):=by
 obtain ⟨hok,inner,⟨hlen,hr⟩,hreps⟩:=ho
 rcases hr with ⟨hv,_⟩|⟨g',cap',cur,hv,hb,hh,hn,hcap,hsz2,htk⟩
 · cases hv
 ·
  cases hv
  have hg : ok g:=hok g (by simp [Value.ownBlock]);have hfm : fl.length = m:=by rw [hfl,List.length_take];omega
  have hlt:=kL_ hh;have hw : (Go.Sort.grow (Go.Sort.putRow (Value.int .i64) (Go.Sort.ahead w q) g 0 dd.toArray) os).heap[g]? = some (.cells (Go.Sort.putCells (Value.int .i64) 0 dd.toArray cur) e (0,0)):=by
   show ((w.heap.modify g (Go.Sort.onCells _)) ++ os)[g]? = _
   rw [Array.getElem?_append_left (by simpa using hlt),Array.getElem?_modify,if_pos rfl,hh]
   rfl
  have ho : ∀ i,i < w.heap.size → g ≠ i → (Go.Sort.grow (Go.Sort.putRow (Value.int .i64) (Go.Sort.ahead w q) g 0 dd.toArray) os).heap[i]? = w.heap[i]?:=fun i hi hne=>by
   show ((w.heap.modify g (Go.Sort.onCells _)) ++ os)[i]? = _
   rw [Array.getElem?_append_left (by simpa using hi),Array.getElem?_modify,if_neg hne]
  have hz : w.heap.size≤(Go.Sort.grow (Go.Sort.putRow (Value.int .i64) (Go.Sort.ahead w q) g 0 dd.toArray) os).heap.size:=by
   show _≤((w.heap.modify g (Go.Sort.onCells _)) ++ os).size
   simp
  have hcs : cur.size = cap:=by have h_ : cur.size = cap * 1:=hsz2;omega
  refine ⟨⟨fun k_ hk_=>.inl (hok k_ hk_),fl.map (Value.int .i64),⟨by show (fl.map _).length = fl.length * 1;simp,.inr ⟨g,cap,_,by rw [hfm],hb,hw,by omega,hcap,by show _ = cap * 1;simp [Go.Sort.putCells,hcs],?_⟩⟩,by show (fl.map _).length = fl.length * 1;simp,fun j p hp=>?_⟩,⟨hB.os,hB.tape,hB.output,Nat.le_trans hB.size hz,fun i hi=>by rw [ho i (nT_ hi hB.size) (by omega)];exact hB.block i hi⟩,hz,fun i hi hne=>ho i hi (fun e_=>hne (by rw [← e_];exact hg))⟩
  ·
   show List.take (fl.length * 1) _ = _
   rw [Nat.mul_one]
   apply List.ext_getElem?
   intro i
   by_cases hi : i < fl.length
   ·
    have h1 : i < cur.size:=by omega
    have h2 : i < dd.length:=by omega
    have h3 : dd[i]? = fl[i]?:=by rw [hfl,List.getElem?_take_of_lt (by omega)]
    have h4 : dd[i] = fl[i]:=by
     have h5:=List.getElem?_eq_getElem h2;rw [h3,List.getElem?_eq_getElem hi] at h5;exact (Option.some.inj h5).symm
    rw [List.getElem?_take_of_lt hi]
    simp [Go.Sort.putCells,h1,h2,hi]
    exact h4
   · rw [List.getElem?_eq_none (by simp;omega),List.getElem?_eq_none (by simpa using hi)]
  ·
   obtain ⟨hj,he⟩:=List.getElem?_eq_some_iff.1 hp
   show ((fl.map (Value.int .i64)).drop (j * 1)).take 1 = [.int .i64 p]
   rw [Nat.mul_one,← List.map_drop,List.drop_eq_getElem_cons hj,he]
   rfl
def slices_Sort_int64_int64.f (l0 : List Int) : Option (List Int) := if l0.length < 4611686018427387904 then some (l0.mergeSort fun x y => decide (x ≤ y)) else none
set_option maxHeartbeats 8000000 in
set_option maxRecDepth 100000 in
theorem slices_Sort_int64_int64.calls (P0_ : Nat → Prop) (u9000_ : Value) (l0 : List Int) (r0 : List Int) (w0 w : World) (hB : Below w0.heap.size w0 w) (ho0 : Kd.R (Kd.int .i64) 2 w w0.heap.size P0_ u9000_ l0) (h : slices_Sort_int64_int64.f l0 = some r0) :
  Calls Try.prog 20 #[u9000_] w fun e w'=>e = .returned (.tuple #[]) ∧ Kd.R (Kd.int .i64) 2 w' w0.heap.size (fun k_=>(P0_ k_ ∨ w.heap.size≤k_)) u9000_ r0 ∧ Below w0.heap.size w0 w' ∧ Kept w w' (fun k_=>P0_ k_):=by
 unfold slices_Sort_int64_int64.f at h
 by_cases hs : l0.length < 4611686018427387904
 ·
  rw [if_pos hs] at h;obtain rfl:=Option.some.inj h;clear h;have hR:=ho0;obtain ⟨hok,inner,⟨hlen,hr⟩,hreps⟩:=ho0
  rcases hr with ⟨hv,h0⟩|⟨g,cap,cur,hv,hb,hh,hn,hcap,hsz,htk⟩
  ·
   subst hv;obtain rfl : l0 = []:=List.eq_nil_of_length_eq_zero h0;refine Calls.mono (show Calls Try.prog 20 #[.slice none 0 0] w _ from Go.Proofs.AnyG.slices_Sort_int_none slices_Sort_int64_int64_lays none 0 w) ?_;rintro e w' ⟨rfl,rfl⟩;rw [List.mergeSort_nil];exact ⟨rfl,Kd.R_nil _ _ _ _ _,hB,Kept.refl _ _⟩
  ·
   subst hv;obtain ⟨hH,hg,-,-⟩:=slices_Sort_int64_int64.holds hR;refine Calls.mono (show Calls Try.prog 20 #[.slice (some ⟨g,0,none⟩) l0.length cap] w _ from Go.Proofs.AnyG.slices_Sort_int slices_Sort_int64_int64_lays g 0 cap l0 w hH hg hs) ?_;rintro e w' ⟨rfl,n,os,rfl⟩;exact ⟨rfl,slices_Sort_int64_int64.left hR hB n os (l0.mergeSort fun x y=>decide (x≤y)) (List.length_mergeSort _) l0.length (Nat.le_refl _) _ (by rw [List.take_of_length_le (by rw [List.length_mergeSort];exact Nat.le_refl _)])⟩
 ·
  rw [if_neg hs] at h
  cases h
end Go.Proofs.Ytljfjljeabcfgaa.Q
