/- What the functions of layer 11 (towns) come to, in plain words: kinds of houses. No conditions. -/
import Derived.Test.YtbdijpjlgokfkaaPx0
import Derived.Test.YtbdijpjlgokfkaaPx5
import Derived.Test.YtbdijpjlgokfkaaPx6
import Derived.Test.YtbdijpjlgokfkaaPx9
import Derived.Test.YtbdijpjlgokfkaaTown0
import Derived.Test.YtbdijpjlgokfkaaPV
namespace Go.Proofs.Ytbdijpjlgokfkaa.Pure
set_option linter.unusedVariables false
set_option linter.unusedSimpArgs false
open Go.RowKit Go.Proofs.YtbdijpjlgokfkaaW.PrintWords Go.Proofs.Ytbdijpjlgokfkaa.P Go.Proofs.Ytbdijpjlgokfkaa

def ByteAt (s:ByteArray) (j:Nat):Prop:=97≤bt s (j:Int)∧bt s (j:Int)≤122
def NameOk (s:ByteArray):Prop:=(∀ j,0≤j→j<s.size→ByteAt s j)∧1≤s.size∧s.size≤12
open Classical in
theorem name_ev (s:ByteArray) (hs:s.size≤9223372036854775807):Ev (fun k=>town_name.f k s) (decide (NameOk s)):=by
 unfold town_name.f
 have hgood:∀ i,i<s.size→ByteAt s i→∀ r,Ev (fun k=>town_name.l0 k s (s.size:Int) ((i:Int)+1)) r→Ev (fun k=>town_name.l0 k s (s.size:Int) (i:Int)) r:=by
  intro i hi hp r hr
  unfold ByteAt at hp
  refine Ev.step (fun k=>by simp only [town_name.l0];rfl) ?_
  rw [wrap_in (x:=(i:Int)+1) (by omega) (by omega)]
  exact Ev.pos (by omega) (Ev.pos (by omega) (Ev.pos (by omega) (Ev.neg (by omega) (Ev.neg (by omega) hr))))
 have hbad:∀ i,i<s.size→¬ ByteAt s i→Ev (fun k=>town_name.l0 k s (s.size:Int) (i:Int)) false:=by
  intro i hi hp
  unfold ByteAt at hp
  refine Ev.step (fun k=>by simp only [town_name.l0];rfl) ?_
  refine Ev.pos (by omega) (Ev.pos (by omega) (Ev.pos (by omega) ?_))
  by_cases h0:bt s (i:Int)<97
  ·exact Ev.pos h0 (Ev.now _)
  ·exact Ev.neg h0 (Ev.pos (by omega) (Ev.now _))
 have hend:Ev (fun k=>town_name.l0 k s (s.size:Int) (s.size:Int)) (decide (1≤s.size∧s.size≤12)):=by
  refine Ev.step (fun k=>by simp only [town_name.l0];rfl) (Ev.neg (by omega) ?_)
  by_cases h:(s.size:Int)≥1
  ·exact Ev.pos h (Ev.const (by congr 1;apply decide_eq_decide.2;omega))
  ·exact Ev.neg h (Ev.const (by rw [decide_eq_false (by omega)]))
 by_cases H:∀ j,0≤j→j<s.size→ByteAt s j
 ·refine Ev.eq (Ev.scan_all (g:=fun k i=>town_name.l0 k s (s.size:Int) i) hend hgood s.size 0 (by omega) H) ?_
  exact decide_eq_decide.2 ⟨fun h=>⟨H,h⟩,fun h=>h.2⟩
 ·refine Ev.eq (Ev.scan_some (g:=fun k i=>town_name.l0 k s (s.size:Int) i) hgood hbad s.size 0 (by omega) (not_all H)) ?_
  rw [decide_eq_false (fun h:NameOk s=>H h.1)]
open Classical in
theorem named_ev (s:ByteArray) (hs:s.size≤9223372036854775807):Ev (fun k=>h09_Named.f k s) (decide (NameOk s)):=by
 unfold h09_Named.f
 have out:¬ (1≤s.size∧s.size≤12)→∀ q,q=true→Ev (fun k=>h09_Named.j0 k s q) (decide (NameOk s)):=by
  intro h q hq
  rw [decide_eq_false (fun h':NameOk s=>h h'.2)]
  exact Ev.step (fun k=>by simp only [h09_Named.j0];rfl) (Ev.pos hq (Ev.now _))
 by_cases h1:(s.size:Int)<1
 ·exact Ev.pos h1 (out (by omega) _ rfl)
 refine Ev.neg h1 ?_
 by_cases h2:(s.size:Int) > 12
 ·exact out (by omega) _ (decide_eq_true h2)
 rw [decide_eq_false h2]
 refine Ev.step (fun k=>by simp only [h09_Named.j0];rfl) (Ev.neg (by simp) ?_)
 have hgood:∀ i,i<s.size→ByteAt s i→∀ r,Ev (fun k=>h09_Named.l0 k s ((i:Int)+1)) r→Ev (fun k=>h09_Named.l0 k s (i:Int)) r:=by
  intro i hi hp r hr
  unfold ByteAt at hp
  refine Ev.step (fun k=>by simp only [h09_Named.l0];rfl) ?_
  rw [wrap_in (x:=(i:Int)+1) (by omega) (by omega)]
  exact Ev.pos (by omega) (Ev.pos (by omega) (Ev.neg (by omega) (Ev.neg (by omega) hr)))
 have hbad:∀ i,i<s.size→¬ ByteAt s i→Ev (fun k=>h09_Named.l0 k s (i:Int)) false:=by
  intro i hi hp
  unfold ByteAt at hp
  refine Ev.step (fun k=>by simp only [h09_Named.l0];rfl) ?_
  refine Ev.pos (by omega) (Ev.pos (by omega) ?_)
  by_cases h0:bt s (i:Int)<97
  ·exact Ev.pos h0 (Ev.now _)
  ·exact Ev.neg h0 (Ev.pos (by omega) (Ev.now _))
 have hend:Ev (fun k=>h09_Named.l0 k s (s.size:Int)) true :=
  Ev.step (fun k=>by simp only [h09_Named.l0];rfl) (Ev.neg (by omega) (Ev.now _))
 by_cases H:∀ j,0≤j→j<s.size→ByteAt s j
 ·rw [decide_eq_true (show NameOk s from ⟨H,by omega,by omega⟩)]
  exact Ev.scan_all (g:=fun k i=>h09_Named.l0 k s i) hend hgood s.size 0 (by omega) H
 ·rw [decide_eq_false (fun h:NameOk s=>H h.1)]
  exact Ev.scan_some (g:=fun k i=>h09_Named.l0 k s i) hgood hbad s.size 0 (by omega) (not_all H)

theorem rdK (l:List S80) (i:Nat):rd_T80 l (i:Int)=l.getD i z80:=by unfold rd_T80;simp
def KindAt (l:List S80) (j:Nat):Prop:=NameOk (l.getD j z80).f0∧(0≤(l.getD j z80).f1∧(l.getD j z80).f1≤1000)∧(0≤(l.getD j z80).f2∧(l.getD j z80).f2≤1000)∧(0≤(l.getD j z80).f3∧(l.getD j z80).f3≤1048576)
def Kinds (l:List S80):Prop:=∀ j,0≤j→j<l.length→KindAt l j
def Unlike (l:List S80) (i j:Nat):Prop:=¬ (l.getD i z80).f0.toList=(l.getD j z80).f0.toList
def OnceAt (l:List S80) (i:Nat):Prop:=∀ j,0≤j→j<i→Unlike l i j
def Once (l:List S80):Prop:=∀ i,0≤i→i<l.length→OnceAt l i
open Classical in
noncomputable def kcode (l:List S80):Int:=if l.length > 16 then 4 else if Kinds l then (if Once l then 0 else 3) else 1
def Sized (l:List S80):Prop:=∀ j,(l.getD j z80).f0.size≤9223372036854775807
section
variable {l:List S80}
open Classical in
theorem kinds_ev (hz:Sized l):Ev (fun k=>town_ValidateKinds.f k l) (kcode l):=by
 unfold town_ValidateKinds.f
 by_cases h16:l.length > 16
 ·exact Ev.eq (Ev.pos (by omega) (Ev.now _)) (if_pos h16).symm
 refine Ev.eq (Ev.neg (by omega) ?_) (if_neg h16).symm
 have good0:∀ i,i<l.length→KindAt l i→∀ r,Ev (fun k=>town_ValidateKinds.l0 k l l (l.length:Int) ((i:Int)+1)) r→Ev (fun k=>town_ValidateKinds.l0 k l l (l.length:Int) (i:Int)) r:=by
  intro i hi ⟨p0,p1,p2,p3⟩ r hr
  refine Ev.step (fun k=>by simp only [town_ValidateKinds.l0];rfl) ?_
  rw [rdK,wrap_in (x:=(i:Int)+1) (by omega) (by omega)]
  exact Ev.pos (by omega) (Ev.pos (by omega) (Ev.pos (by omega) (Ev.bind (name_ev _ (hz i)) (Ev.pos (decide_eq_true p0) (Ev.bindc (within_eq _ _) (Ev.pos (decide_eq_true p1) (Ev.bindc (within_eq _ _) (Ev.pos (decide_eq_true p2) (Ev.bindc (within_eq _ _) (Ev.pos (decide_eq_true p3) hr))))))))))
 have bad0:∀ i,i<l.length→¬ KindAt l i→Ev (fun k=>town_ValidateKinds.l0 k l l (l.length:Int) (i:Int)) 1:=by
  intro i hi hp
  refine Ev.step (fun k=>by simp only [town_ValidateKinds.l0];rfl) ?_
  rw [rdK]
  refine Ev.pos (by omega) (Ev.pos (by omega) (Ev.pos (by omega) (Ev.bind (name_ev _ (hz i)) ?_)))
  by_cases p0:NameOk (l.getD i z80).f0
  rotate_left
  ·exact Ev.neg (fun h=>p0 (of_decide_eq_true h)) (Ev.now _)
  refine Ev.pos (decide_eq_true p0) (Ev.bindc (within_eq _ _) ?_)
  by_cases p1:0≤(l.getD i z80).f1∧(l.getD i z80).f1≤1000
  rotate_left
  ·exact Ev.neg (fun h=>p1 (of_decide_eq_true h)) (Ev.now _)
  refine Ev.pos (decide_eq_true p1) (Ev.bindc (within_eq _ _) ?_)
  by_cases p2:0≤(l.getD i z80).f2∧(l.getD i z80).f2≤1000
  rotate_left
  ·exact Ev.neg (fun h=>p2 (of_decide_eq_true h)) (Ev.now _)
  refine Ev.pos (decide_eq_true p2) (Ev.bindc (within_eq _ _) ?_)
  exact Ev.neg (fun h=>hp ⟨p0,p1,p2,of_decide_eq_true h⟩) (Ev.now _)
 have end0:∀ r,Ev (fun k=>town_ValidateKinds.l1 k l l (l.length:Int) (0:Int)) r→Ev (fun k=>town_ValidateKinds.l0 k l l (l.length:Int) ((l.length:Nat):Int)) r:=by
  intro r hr
  exact Ev.step (fun k=>by simp only [town_ValidateKinds.l0];rfl) (Ev.neg (by omega) hr)
 have end1:Ev (fun k=>town_ValidateKinds.l1 k l l (l.length:Int) ((l.length:Nat):Int)) 0 :=
  Ev.step (fun k=>by simp only [town_ValidateKinds.l1];rfl) (Ev.neg (by omega) (Ev.now _))
 have tk:∀ i j,j<i→rd_T80 (l.take i) (j:Int)=l.getD j z80:=by
  intro i j hj
  rw [rdK,List.getD_eq_getElem?_getD,List.getD_eq_getElem?_getD,List.getElem?_take_of_lt hj]
 have good2:∀ i,i<l.length→∀ j,j<i→Unlike l i j→∀ r,Ev (fun k=>town_ValidateKinds.l2 k l l (l.length:Int) (i:Int) (l.take i) (((l.take i).length:Nat):Int) ((j:Int)+1) (l.getD i z80).f0 (l.getD i z80).f1 (l.getD i z80).f2 (l.getD i z80).f3) r→Ev (fun k=>town_ValidateKinds.l2 k l l (l.length:Int) (i:Int) (l.take i) (((l.take i).length:Nat):Int) (j:Int) (l.getD i z80).f0 (l.getD i z80).f1 (l.getD i z80).f2 (l.getD i z80).f3) r:=by
  intro i hi j hj hp r hr
  have ht:(l.take i).length=i:=by rw [List.length_take];omega
  refine Ev.step (fun k=>by simp only [town_ValidateKinds.l2];rfl) ?_
  rw [tk i j hj,wrap_in (x:=(j:Int)+1) (by omega) (by omega)]
  exact Ev.pos (by omega) (Ev.pos (by omega) (Ev.pos (by omega) (Ev.neg hp hr)))
 have bad2:∀ i,i<l.length→∀ j,j<i→¬ Unlike l i j→Ev (fun k=>town_ValidateKinds.l2 k l l (l.length:Int) (i:Int) (l.take i) (((l.take i).length:Nat):Int) (j:Int) (l.getD i z80).f0 (l.getD i z80).f1 (l.getD i z80).f2 (l.getD i z80).f3) 3:=by
  intro i hi j hj hp
  have ht:(l.take i).length=i:=by rw [List.length_take];omega
  refine Ev.step (fun k=>by simp only [town_ValidateKinds.l2];rfl) ?_
  rw [tk i j hj]
  exact Ev.pos (by omega) (Ev.pos (by omega) (Ev.pos (by omega) (Ev.pos (Classical.not_not.1 hp) (Ev.now _))))
 have into:∀ i,i<l.length→∀ r,Ev (fun k=>town_ValidateKinds.l2 k l l (l.length:Int) (i:Int) (l.take i) (((l.take i).length:Nat):Int) (0:Int) (l.getD i z80).f0 (l.getD i z80).f1 (l.getD i z80).f2 (l.getD i z80).f3) r→Ev (fun k=>town_ValidateKinds.l1 k l l (l.length:Int) (i:Int)) r:=by
  intro i hi r hr
  refine Ev.step (fun k=>by simp only [town_ValidateKinds.l1];rfl) ?_
  rw [rdK]
  exact Ev.pos (by omega) (Ev.pos (by omega) (Ev.pos (by omega) (Ev.pos (by omega) (Ev.bindc (by rw [Int.toNat_natCast]) hr))))
 have good1:∀ i,i<l.length→OnceAt l i→∀ r,Ev (fun k=>town_ValidateKinds.l1 k l l (l.length:Int) ((i:Int)+1)) r→Ev (fun k=>town_ValidateKinds.l1 k l l (l.length:Int) (i:Int)) r:=by
  intro i hi hp r hr
  have ht:(l.take i).length=i:=by rw [List.length_take];omega
  refine into i hi r (Ev.scan_all (g:=fun k j=>town_ValidateKinds.l2 k l l (l.length:Int) (i:Int) (l.take i) (((l.take i).length:Nat):Int) j (l.getD i z80).f0 (l.getD i z80).f1 (l.getD i z80).f2 (l.getD i z80).f3) ?_ (good2 i hi) i 0 (by omega) hp)
  refine Ev.step (fun k=>by simp only [town_ValidateKinds.l2];rfl) ?_
  rw [wrap_in (x:=(i:Int)+1) (by omega) (by omega)]
  exact Ev.neg (by omega) hr
 have bad1:∀ i,i<l.length→¬ OnceAt l i→Ev (fun k=>town_ValidateKinds.l1 k l l (l.length:Int) (i:Int)) 3:=by
  intro i hi hp
  exact into i hi _ (Ev.scan_some (g:=fun k j=>town_ValidateKinds.l2 k l l (l.length:Int) (i:Int) (l.take i) (((l.take i).length:Nat):Int) j (l.getD i z80).f0 (l.getD i z80).f1 (l.getD i z80).f2 (l.getD i z80).f3) (good2 i hi) (bad2 i hi) i 0 (by omega) (not_all hp))
 by_cases g0:Kinds l
 rotate_left
 ·exact Ev.eq (Ev.scan_some (g:=fun k i=>town_ValidateKinds.l0 k l l (l.length:Int) i) good0 bad0 l.length 0 (by omega) (not_all g0)) (if_neg g0).symm
 refine Ev.eq (Ev.scan_all (g:=fun k i=>town_ValidateKinds.l0 k l l (l.length:Int) i) (end0 _ ?_) good0 l.length 0 (by omega) g0) (if_pos g0).symm
 by_cases g1:Once l
 ·exact Ev.eq (Ev.scan_all (g:=fun k i=>town_ValidateKinds.l1 k l l (l.length:Int) i) end1 good1 l.length 0 (by omega) g1) (if_pos g1).symm
 ·exact Ev.eq (Ev.scan_some (g:=fun k i=>town_ValidateKinds.l1 k l l (l.length:Int) i) good1 bad1 l.length 0 (by omega) (not_all g1)) (if_neg g1).symm
open Classical in
theorem ref_kinds_ev (hz:Sized l):Ev (fun k=>h11_ValidateKinds.f k l) (kcode l):=by
 unfold h11_ValidateKinds.f
 by_cases h16:l.length > 16
 ·exact Ev.eq (Ev.pos (by omega) (Ev.now _)) (if_pos h16).symm
 refine Ev.eq (Ev.neg (by omega) ?_) (if_neg h16).symm
 have good0:∀ i,i<l.length→KindAt l i→∀ r,Ev (fun k=>h11_ValidateKinds.l0 k l ((i:Int)+1)) r→Ev (fun k=>h11_ValidateKinds.l0 k l (i:Int)) r:=by
  intro i hi ⟨p0,p1,p2,p3⟩ r hr
  refine Ev.step (fun k=>by simp only [h11_ValidateKinds.l0];rfl) ?_
  rw [rdK,wrap_in (x:=(i:Int)+1) (by omega) (by omega)]
  exact Ev.pos (by omega) (Ev.pos (by omega) (Ev.bind (named_ev _ (hz i)) (Ev.pos (decide_eq_true p0) (Ev.bindc (out_eq _ _) (Ev.neg (fun h=>(of_decide_eq_true h) p1) (Ev.bindc (out_eq _ _) (Ev.neg (fun h=>(of_decide_eq_true h) p2) (Ev.bindc (out_eq _ _) (Ev.neg (fun h=>(of_decide_eq_true h) p3) hr)))))))))
 have bad0:∀ i,i<l.length→¬ KindAt l i→Ev (fun k=>h11_ValidateKinds.l0 k l (i:Int)) 1:=by
  intro i hi hp
  refine Ev.step (fun k=>by simp only [h11_ValidateKinds.l0];rfl) ?_
  rw [rdK]
  refine Ev.pos (by omega) (Ev.pos (by omega) (Ev.bind (named_ev _ (hz i)) ?_))
  by_cases p0:NameOk (l.getD i z80).f0
  rotate_left
  ·exact Ev.neg (fun h=>p0 (of_decide_eq_true h)) (Ev.now _)
  refine Ev.pos (decide_eq_true p0) (Ev.bindc (out_eq _ _) ?_)
  by_cases p1:0≤(l.getD i z80).f1∧(l.getD i z80).f1≤1000
  rotate_left
  ·exact Ev.pos (decide_eq_true p1) (Ev.now _)
  refine Ev.neg (fun h=>(of_decide_eq_true h) p1) (Ev.bindc (out_eq _ _) ?_)
  by_cases p2:0≤(l.getD i z80).f2∧(l.getD i z80).f2≤1000
  rotate_left
  ·exact Ev.pos (decide_eq_true p2) (Ev.now _)
  refine Ev.neg (fun h=>(of_decide_eq_true h) p2) (Ev.bindc (out_eq _ _) ?_)
  exact Ev.pos (decide_eq_true (fun h=>hp ⟨p0,p1,p2,h⟩)) (Ev.now _)
 have end0:∀ r,Ev (fun k=>h11_ValidateKinds.l1 k l (0:Int)) r→Ev (fun k=>h11_ValidateKinds.l0 k l ((l.length:Nat):Int)) r:=by
  intro r hr
  exact Ev.step (fun k=>by simp only [h11_ValidateKinds.l0];rfl) (Ev.neg (by omega) hr)
 have end1:Ev (fun k=>h11_ValidateKinds.l1 k l ((l.length:Nat):Int)) 0 :=
  Ev.step (fun k=>by simp only [h11_ValidateKinds.l1];rfl) (Ev.neg (by omega) (Ev.now _))
 have good2:∀ i,i<l.length→∀ j,j<i→Unlike l i j→∀ r,Ev (fun k=>h11_ValidateKinds.l2 k l (i:Int) ((j:Int)+1)) r→Ev (fun k=>h11_ValidateKinds.l2 k l (i:Int) (j:Int)) r:=by
  intro i hi j hj hp r hr
  refine Ev.step (fun k=>by simp only [h11_ValidateKinds.l2];rfl) ?_
  rw [rdK,rdK,wrap_in (x:=(j:Int)+1) (by omega) (by omega)]
  exact Ev.pos (by omega) (Ev.pos (by omega) (Ev.pos (by omega) (Ev.pos (by omega) (Ev.pos (by omega) (Ev.neg hp hr)))))
 have bad2:∀ i,i<l.length→∀ j,j<i→¬ Unlike l i j→Ev (fun k=>h11_ValidateKinds.l2 k l (i:Int) (j:Int)) 3:=by
  intro i hi j hj hp
  refine Ev.step (fun k=>by simp only [h11_ValidateKinds.l2];rfl) ?_
  rw [rdK,rdK]
  exact Ev.pos (by omega) (Ev.pos (by omega) (Ev.pos (by omega) (Ev.pos (by omega) (Ev.pos (by omega) (Ev.pos (Classical.not_not.1 hp) (Ev.now _))))))
 have into:∀ i,i<l.length→∀ r,Ev (fun k=>h11_ValidateKinds.l2 k l (i:Int) (0:Int)) r→Ev (fun k=>h11_ValidateKinds.l1 k l (i:Int)) r:=by
  intro i hi r hr
  refine Ev.step (fun k=>by simp only [h11_ValidateKinds.l1];rfl) ?_
  exact Ev.pos (by omega) hr
 have good1:∀ i,i<l.length→OnceAt l i→∀ r,Ev (fun k=>h11_ValidateKinds.l1 k l ((i:Int)+1)) r→Ev (fun k=>h11_ValidateKinds.l1 k l (i:Int)) r:=by
  intro i hi hp r hr
  refine into i hi r (Ev.scan_all (g:=fun k j=>h11_ValidateKinds.l2 k l (i:Int) j) ?_ (good2 i hi) i 0 (by omega) hp)
  refine Ev.step (fun k=>by simp only [h11_ValidateKinds.l2];rfl) ?_
  rw [wrap_in (x:=(i:Int)+1) (by omega) (by omega)]
  exact Ev.neg (by omega) hr
 have bad1:∀ i,i<l.length→¬ OnceAt l i→Ev (fun k=>h11_ValidateKinds.l1 k l (i:Int)) 3:=by
  intro i hi hp
  exact into i hi _ (Ev.scan_some (g:=fun k j=>h11_ValidateKinds.l2 k l (i:Int) j) (good2 i hi) (bad2 i hi) i 0 (by omega) (not_all hp))
 by_cases g0:Kinds l
 rotate_left
 ·exact Ev.eq (Ev.scan_some (g:=fun k i=>h11_ValidateKinds.l0 k l i) good0 bad0 l.length 0 (by omega) (not_all g0)) (if_neg g0).symm
 refine Ev.eq (Ev.scan_all (g:=fun k i=>h11_ValidateKinds.l0 k l i) (end0 _ ?_) good0 l.length 0 (by omega) g0) (if_pos g0).symm
 by_cases g1:Once l
 ·exact Ev.eq (Ev.scan_all (g:=fun k i=>h11_ValidateKinds.l1 k l i) end1 good1 l.length 0 (by omega) g1) (if_pos g1).symm
 ·exact Ev.eq (Ev.scan_some (g:=fun k i=>h11_ValidateKinds.l1 k l i) good1 bad1 l.length 0 (by omega) (not_all g1)) (if_neg g1).symm

def HouseOf (l:List S80) (H:List S68) (j:Nat):Prop:=0≤(H.getD j z68).f1∧(H.getD j z68).f1<(l.length:Int)
def HousesOf (l:List S80) (H:List S68):Prop:=∀ j,0≤j→j<H.length→HouseOf l H j
open Classical in
noncomputable def vcode (l:List S80) (tile:Int) (H:List S68) (M:List Int) (mv du:Int):Int :=
 if kcode l=0 then (if tcode tile H M mv du=0 then (if HousesOf l H then 0 else 2) else tcode tile H M mv du) else kcode l
theorem vcode_zero {tile:Int} {H:List S68} {M:List Int} {mv du:Int}:vcode l tile H M mv du=0↔kcode l=0∧tcode tile H M mv du=0∧HousesOf l H:=by
 unfold vcode
 by_cases h1:kcode l=0
 ·rw [if_pos h1]
  by_cases h2:tcode tile H M mv du=0
  ·rw [if_pos h2]
   by_cases h3:HousesOf l H
   ·rw [if_pos h3];exact ⟨fun _=>⟨h1,h2,h3⟩,fun _=>rfl⟩
   ·rw [if_neg h3];exact ⟨fun h=>absurd h (by decide),fun h=>absurd h.2.2 h3⟩
  ·rw [if_neg h2];exact ⟨fun h=>absurd h h2,fun h=>absurd h.2.1 h2⟩
 ·rw [if_neg h1];exact ⟨fun h=>absurd h h1,fun h=>absurd h.1 h1⟩
theorem or_ev (a b:Int):Ev (fun k=>api_Errno.f k [a,b]) (if a=0 then b else a):=by
 unfold api_Errno.f
 refine Ev.step (fun k=>by simp only [api_Errno.l0];rfl) (Ev.pos (by simp) (Ev.pos (by simp) (Ev.pos (by simp) ?_)))
 rw [show rd [a,b] 0=a from rfl,wrap_in (x:=(0:Int)+1) (by omega) (by omega)]
 by_cases h:a=0
 ·rw [if_pos h]
  refine Ev.pos h (Ev.step (fun k=>by simp only [api_Errno.l0];rfl) (Ev.pos (by simp) (Ev.pos (by simp) (Ev.pos (by simp) ?_))))
  rw [show rd [a,b] (0+1)=b from rfl,wrap_in (x:=(0:Int)+1+1) (by omega) (by omega)]
  by_cases g:b=0
  ·refine Ev.pos g (Ev.step (fun k=>by simp only [api_Errno.l0];rfl) (Ev.neg (by simp) ?_))
   rw [g];exact Ev.now _
  ·exact Ev.neg g (Ev.now _)
 ·exact Ev.eq (Ev.neg h (Ev.now _)) (if_neg h).symm
theorem validate_ev {tile:Int} {H:List S68} {M:List Int} {mv du:Int} (hz:Sized l) (hk:l.length≤300) (hM:M.length≤300) (hH:H.length≤600):Ev (fun k=>town_Validate.f k l tile H M mv du) (vcode l tile H M mv du):=by
 unfold town_Validate.f
 refine Ev.bind (kinds_ev hz) (Ev.bind (sound_ev tile H M mv du (by omega)) (Ev.bind (or_ev _ _) ?_))
 by_cases h1:kcode l=0
 rotate_left
 ·rw [if_neg h1]
  exact Ev.eq (Ev.neg h1 (Ev.now _)) (if_neg h1).symm
 refine Ev.eq ?_ (if_pos h1).symm
 rw [show (if kcode l=0 then tcode tile H M mv du else kcode l)=tcode tile H M mv du from if_pos h1]
 by_cases h2:tcode tile H M mv du=0
 rotate_left
 ·exact Ev.eq (Ev.neg h2 (Ev.now _)) (if_neg h2).symm
 refine Ev.eq (Ev.pos h2 ?_) (if_pos h2).symm
 have good:∀ i,i<H.length→HouseOf l H i→∀ r,Ev (fun k=>town_Validate.l0 k l H (H.length:Int) ((i:Int)+1)) r→Ev (fun k=>town_Validate.l0 k l H (H.length:Int) (i:Int)) r:=by
  intro i hi hp r hr
  unfold HouseOf at hp
  refine Ev.step (fun k=>by simp only [town_Validate.l0];rfl) ?_
  rw [rdH,wrap_in (x:=(i:Int)+1) (by omega) (by omega),wrap_in (x:=(l.length:Int) - 1) (by omega) (by omega)]
  exact Ev.pos (by omega) (Ev.pos (by omega) (Ev.pos (by omega) (Ev.bindc (within_eq _ _) (Ev.pos (decide_eq_true (by omega)) hr))))
 have bad:∀ i,i<H.length→¬ HouseOf l H i→Ev (fun k=>town_Validate.l0 k l H (H.length:Int) (i:Int)) 2:=by
  intro i hi hp
  unfold HouseOf at hp
  refine Ev.step (fun k=>by simp only [town_Validate.l0];rfl) ?_
  rw [rdH,wrap_in (x:=(l.length:Int) - 1) (by omega) (by omega)]
  exact Ev.pos (by omega) (Ev.pos (by omega) (Ev.pos (by omega) (Ev.bindc (within_eq _ _) (Ev.neg (fun h=>by have:=of_decide_eq_true h;omega) (Ev.now _)))))
 have fin:Ev (fun k=>town_Validate.l0 k l H (H.length:Int) ((H.length:Nat):Int)) 0 :=
  Ev.step (fun k=>by simp only [town_Validate.l0];rfl) (Ev.neg (by omega) (Ev.now _))
 by_cases h3:HousesOf l H
 ·exact Ev.eq (Ev.scan_all (g:=fun k i=>town_Validate.l0 k l H (H.length:Int) i) fin good H.length 0 (by omega) h3) (if_pos h3).symm
 ·exact Ev.eq (Ev.scan_some (g:=fun k i=>town_Validate.l0 k l H (H.length:Int) i) good bad H.length 0 (by omega) (not_all h3)) (if_neg h3).symm
theorem ref_validate_ev {tile:Int} {H:List S68} {M:List Int} {mv du:Int} (hz:Sized l) (hk:l.length≤300) (hH:H.length≤600):Ev (fun k=>h11_Validate.f k l tile H M mv du) (vcode l tile H M mv du):=by
 unfold h11_Validate.f
 refine Ev.bind (ref_kinds_ev hz) ?_
 by_cases h1:kcode l=0
 rotate_left
 ·exact Ev.eq (Ev.neg h1 (Ev.now _)) (if_neg h1).symm
 refine Ev.eq (Ev.pos h1 (Ev.bind ?_ (Ev.now _))) (if_pos h1).symm
 unfold h11_townError.f
 refine Ev.bind (fields_ev tile H M mv du) ?_
 by_cases h2:tcode tile H M mv du=0
 rotate_left
 ·exact Ev.eq (Ev.neg h2 (Ev.now _)) (if_neg h2).symm
 refine Ev.eq (Ev.pos h2 ?_) (if_pos h2).symm
 have good:∀ i,i<H.length→HouseOf l H i→∀ r,Ev (fun k=>h11_townError.l0 k l ((i:Int)+1) tile H M mv du) r→Ev (fun k=>h11_townError.l0 k l (i:Int) tile H M mv du) r:=by
  intro i hi hp r hr
  unfold HouseOf at hp
  refine Ev.step (fun k=>by simp only [h11_townError.l0];rfl) ?_
  rw [rdH,wrap_in (x:=(i:Int)+1) (by omega) (by omega)]
  exact Ev.pos (by omega) (Ev.pos (by omega) (Ev.neg (by omega) (Ev.neg (by omega) hr)))
 have bad:∀ i,i<H.length→¬ HouseOf l H i→Ev (fun k=>h11_townError.l0 k l (i:Int) tile H M mv du) 2:=by
  intro i hi hp
  unfold HouseOf at hp
  refine Ev.step (fun k=>by simp only [h11_townError.l0];rfl) ?_
  rw [rdH]
  refine Ev.pos (by omega) (Ev.pos (by omega) ?_)
  by_cases h0:(H.getD i z68).f1<0
  ·exact Ev.pos h0 (Ev.now _)
  ·exact Ev.neg h0 (Ev.pos (by omega) (Ev.now _))
 have fin:Ev (fun k=>h11_townError.l0 k l ((H.length:Nat):Int) tile H M mv du) 0 :=
  Ev.step (fun k=>by simp only [h11_townError.l0];rfl) (Ev.neg (by omega) (Ev.now _))
 by_cases h3:HousesOf l H
 ·exact Ev.eq (Ev.scan_all (g:=fun k i=>h11_townError.l0 k l i tile H M mv du) fin good H.length 0 (by omega) h3) (if_pos h3).symm
 ·exact Ev.eq (Ev.scan_some (g:=fun k i=>h11_townError.l0 k l i tile H M mv du) good bad H.length 0 (by omega) (not_all h3)) (if_neg h3).symm
theorem sized_of (h:V.gList g80 l):Sized l:=by
 intro j
 by_cases hj:j<l.length
 ·have:=(h.2 _ (List.getElem_mem hj)).1
  rw [List.getD_eq_getElem?_getD,List.getElem?_eq_getElem hj]
  exact this
 ·rw [List.getD_eq_getElem?_getD,List.getElem?_eq_none (by omega)]
  decide
end

end Go.Proofs.Ytbdijpjlgokfkaa.Pure
