/- What layer 11 leans on of layer 4 (streets), in plain words. No conditions. -/
import Derived.Test.YtbdijpjlgokfkaaPx0
import Derived.Test.YtbdijpjlgokfkaaPx6
import Derived.Test.YtbdijpjlgokfkaaPx9
import Derived.Test.YtbdijpjlgokfkaaPx13
import Derived.Test.YtbdijpjlgokfkaaEvKit
import Derived.Test.YtbdijpjlgokfkaaVOpen
namespace Go.Proofs.Ytbdijpjlgokfkaa.Pure.R
set_option linter.unusedVariables false
set_option linter.unusedSimpArgs false
open Go.RowKit Go.Proofs.YtbdijpjlgokfkaaW.PrintWords Go.Proofs.Ytbdijpjlgokfkaa.P Go.Proofs.Ytbdijpjlgokfkaa
theorem rdN (l:List Int) (i:Nat):rd l (i:Int)=l.getD i 0:=by unfold rd;simp
theorem not_all {p:Nat→Prop} {n:Nat} (h:¬ ∀ j,0≤j→j<n→p j):∃ j,0≤j∧j<n∧¬ p j:=by
 apply Classical.byContradiction
 intro hc
 exact h fun j h1 h2=>Classical.byContradiction fun h3=>hc ⟨j,h1,h2,h3⟩
theorem Ev.pif {α:Type} {c:Prop} [Decidable c] {a b:Nat→Option α} {r:α} (h:c) (k:Ev a r):Ev (fun n=>if c then a n else b n) r:=Ev.pos h k
def Shape (W H:Int) (A Y:List Int):Prop:=(4≤W∧W≤32)∧(4≤H∧H≤32)∧(A.length:Int)=W * H∧(Y.length:Int)=W * H
def ArmAt (A:List Int) (j:Nat):Prop:=0≤A.getD j 0∧A.getD j 0≤15
def WayAt (Y:List Int) (j:Nat):Prop:=0≤Y.getD j 0∧Y.getD j 0≤2
def OneAt (A Y:List Int) (j:Nat):Prop:=Y.getD j 0=0∨A.getD j 0=5∨A.getD j 0=10
def Arms (A:List Int):Prop:=∀ j,0≤j→j<A.length→ArmAt A j
def Wayz (Y:List Int):Prop:=∀ j,0≤j→j<Y.length→WayAt Y j
def Ones (A Y:List Int):Prop:=∀ j,0≤j→j<Y.length→OneAt A Y j
open Classical in
noncomputable def vcode (W H:Int) (A Y:List Int):Int:=if Shape W H A Y then (if Arms A∧Wayz Y then (if Ones A Y then 0 else 9) else 1) else 1
theorem vcode_zero {W H:Int} {A Y:List Int}:vcode W H A Y=0↔Shape W H A Y∧Arms A∧Wayz Y∧Ones A Y:=by
 unfold vcode
 by_cases h1:Shape W H A Y
 ·by_cases h2:Arms A∧Wayz Y
  ·by_cases h3:Ones A Y
   ·simp [h1,h2,h3]
   ·simp [h1,h2,h3]
  ·rw [if_pos h1,if_neg h2];exact ⟨fun h=>absurd h (by decide),fun h=>absurd ⟨h.2.1,h.2.2.1⟩ h2⟩
 ·simp [h1]
theorem area {W H:Int} (hW:4≤W∧W≤32) (hH:4≤H∧H≤32):16≤W * H∧W * H≤1024:=by
 constructor
 ·have:=Int.mul_le_mul hW.1 hH.1 (by decide) (by omega);omega
 ·have:=Int.mul_le_mul hW.2 hH.2 (by omega) (by decide);omega
section
variable {W H:Int} {A Y:List Int}
theorem validate_ev (hA:A.length≤4000) (hY:Y.length≤4000):Ev (fun k=>road_Validate.f k W H A Y) (vcode W H A Y):=by
 unfold road_Validate.f
 have bad:¬ Shape W H A Y→∀ q,q=true→Ev (fun k=>road_Validate.j0 k q W H A Y) (vcode W H A Y):=by
  intro h q hq
  refine Ev.eq (Ev.step (fun k=>by simp only [road_Validate.j0];rfl) (Ev.pos hq (Ev.now _))) (if_neg h).symm
 by_cases w0:W<4
 ·exact Ev.pos w0 (bad (fun h=>by have:=h.1;omega) _ rfl)
 refine Ev.neg w0 ?_
 by_cases w1:W > 32
 ·exact Ev.pos w1 (bad (fun h=>by have:=h.1;omega) _ rfl)
 refine Ev.neg w1 ?_
 by_cases h0:H<4
 ·exact Ev.pos h0 (bad (fun h=>by have:=h.2.1;omega) _ rfl)
 refine Ev.neg h0 ?_
 by_cases h1:H > 32
 ·exact Ev.pos h1 (bad (fun h=>by have:=h.2.1;omega) _ rfl)
 refine Ev.neg h1 ?_
 have ha:=area (W:=W) (H:=H) ⟨by omega,by omega⟩ ⟨by omega,by omega⟩
 rw [wrap_in (x:=W * H) (by omega) (by omega)]
 by_cases l1:(A.length:Int)=W * H
 rotate_left
 ·exact Ev.neg l1 (bad (fun h=>l1 h.2.2.1) _ rfl)
 refine Ev.pos l1 ?_
 by_cases l2:(Y.length:Int)=W * H
 rotate_left
 ·exact bad (fun h=>l2 h.2.2.2) _ (bne_iff_ne.2 l2)
 have hs:Shape W H A Y:=⟨⟨by omega,by omega⟩,⟨by omega,by omega⟩,l1,l2⟩
 refine Ev.eq ?_ (if_pos hs).symm
 rw [show ((Y.length:Int) != W * H)=false from bne_eq_false_iff_eq.2 l2]
 refine Ev.step (fun k=>by simp only [road_Validate.j0];rfl) (Ev.neg (by simp) ?_)
 have end1:∀ r,Ev (fun k=>road_Validate.l1 k Y (Y.length:Int) (0:Int) W H A Y) r→Ev (fun k=>road_Validate.l0 k (A.length:Int) ((A.length:Nat):Int) W H A Y) r:=by
  intro r hr
  exact Ev.step (fun k=>by simp only [road_Validate.l0];rfl) (Ev.neg (by omega) hr)
 have good1:∀ i,i<A.length→(ArmAt A i∧WayAt Y i)→∀ r,Ev (fun k=>road_Validate.l0 k (A.length:Int) ((i:Int)+1) W H A Y) r→Ev (fun k=>road_Validate.l0 k (A.length:Int) (i:Int) W H A Y) r:=by
  intro i hi ⟨p1,p2⟩ r hr
  unfold ArmAt at p1
  unfold WayAt at p2
  refine Ev.step (fun k=>by simp only [road_Validate.l0];rfl) ?_
  rw [rdN,rdN,wrap_in (x:=(i:Int)+1) (by omega) (by omega)]
  exact Ev.pos (by omega) (Ev.pos (by omega) (Ev.pos (by omega) (Ev.neg (by omega) (Ev.neg (by omega) (Ev.pos (by omega) (Ev.neg (by omega) (Ev.neg (by omega) hr)))))))
 have bad1:∀ i,i<A.length→¬ (ArmAt A i∧WayAt Y i)→Ev (fun k=>road_Validate.l0 k (A.length:Int) (i:Int) W H A Y) 1:=by
  intro i hi hp
  unfold ArmAt WayAt at hp
  refine Ev.step (fun k=>by simp only [road_Validate.l0];rfl) ?_
  rw [rdN,rdN]
  refine Ev.pos (by omega) (Ev.pos (by omega) (Ev.pos (by omega) ?_))
  by_cases q1:A.getD i 0<0
  ·exact Ev.pos q1 (Ev.now _)
  refine Ev.neg q1 ?_
  by_cases q2:A.getD i 0 > 15
  ·exact Ev.pos q2 (Ev.now _)
  refine Ev.neg q2 (Ev.pos (by omega) ?_)
  by_cases q3:Y.getD i 0<0
  ·exact Ev.pos q3 (Ev.now _)
  exact Ev.neg q3 (Ev.pos (by omega) (Ev.now _))
 have good2:∀ i,i<Y.length→OneAt A Y i→∀ r,Ev (fun k=>road_Validate.l1 k Y (Y.length:Int) ((i:Int)+1) W H A Y) r→Ev (fun k=>road_Validate.l1 k Y (Y.length:Int) (i:Int) W H A Y) r:=by
  intro i hi p r hr
  unfold OneAt at p
  refine Ev.step (fun k=>by simp only [road_Validate.l1];rfl) ?_
  rw [rdN,rdN,wrap_in (x:=(i:Int)+1) (by omega) (by omega)]
  refine Ev.pos (by omega) (Ev.pos (by omega) (Ev.pos (by omega) ?_))
  by_cases q1:Y.getD i 0=0
  ·exact Ev.pos q1 hr
  refine Ev.neg q1 (Ev.pos (by omega) ?_)
  by_cases q2:A.getD i 0=5
  ·exact Ev.pos q2 hr
  exact Ev.neg q2 (Ev.pos (by omega) hr)
 have bad2:∀ i,i<Y.length→¬ OneAt A Y i→Ev (fun k=>road_Validate.l1 k Y (Y.length:Int) (i:Int) W H A Y) 9:=by
  intro i hi p
  unfold OneAt at p
  refine Ev.step (fun k=>by simp only [road_Validate.l1];rfl) ?_
  rw [rdN,rdN]
  exact Ev.pos (by omega) (Ev.pos (by omega) (Ev.pos (by omega) (Ev.neg (by omega) (Ev.pos (by omega) (Ev.neg (by omega) (Ev.neg (by omega) (Ev.now _)))))))
 have end2:Ev (fun k=>road_Validate.l1 k Y (Y.length:Int) ((Y.length:Nat):Int) W H A Y) 0 :=
  Ev.step (fun k=>by simp only [road_Validate.l1];rfl) (Ev.neg (by omega) (Ev.now _))
 by_cases g1:Arms A∧Wayz Y
 ·refine Ev.eq ?_ (if_pos g1).symm
  refine Ev.scan_all (g:=fun k i=>road_Validate.l0 k (A.length:Int) i W H A Y) (end1 _ ?_) good1 A.length 0 (by omega) (fun j h1 h2=>⟨g1.1 j h1 h2,g1.2 j h1 (by omega)⟩)
  by_cases g2:Ones A Y
  ·exact Ev.eq (Ev.scan_all (g:=fun k i=>road_Validate.l1 k Y (Y.length:Int) i W H A Y) end2 good2 Y.length 0 (by omega) g2) (if_pos g2).symm
  ·exact Ev.eq (Ev.scan_some (g:=fun k i=>road_Validate.l1 k Y (Y.length:Int) i W H A Y) good2 bad2 Y.length 0 (by omega) (not_all g2)) (if_neg g2).symm
 ·refine Ev.eq (Ev.scan_some (g:=fun k i=>road_Validate.l0 k (A.length:Int) i W H A Y) good1 bad1 A.length 0 (by omega) (not_all fun h=>g1 ⟨fun j h1 h2=>(h j h1 h2).1,fun j h1 h2=>(h j h1 (by omega)).2⟩)) (if_neg g1).symm
theorem side_eq (n:Int):h04_side.f n=some (decide (4≤n∧n≤32)):=by
 unfold h04_side.f
 by_cases h:n≥4
 ·rw [if_pos h];congr 1;apply decide_eq_decide.2;omega
 ·rw [if_neg h,decide_eq_false (by omega)]
theorem straight_eq (n:Int):h04_straight.f n=some (decide (n=5∨n=10)):=by
 unfold h04_straight.f
 by_cases h:n=5
 ·rw [if_pos h,decide_eq_true (.inl h)]
 ·rw [if_neg h]
  by_cases h2:n=10
  ·rw [decide_eq_true (.inr h2),h2];rfl
  ·rw [decide_eq_false (by omega),show (n == 10)=false from beq_eq_false_iff_ne.2 h2]
theorem ref_validate_ev (hA:A.length≤4000) (hY:Y.length≤4000):Ev (fun k=>h04_Validate.f k W H A Y) (vcode W H A Y):=by
 unfold h04_Validate.f
 have bad:¬ Shape W H A Y→∀ q,q=true→Ev (fun k=>h04_Validate.j0 k q W H A Y) (vcode W H A Y):=by
  intro h q hq
  refine Ev.eq (Ev.step (fun k=>by simp only [h04_Validate.j0];rfl) (Ev.pos hq (Ev.now _))) (if_neg h).symm
 refine Ev.bindc (side_eq _) ?_
 by_cases w0:4≤W∧W≤32
 rotate_left
 ·exact Ev.neg (fun h=>w0 (of_decide_eq_true h)) (bad (fun h=>w0 h.1) _ rfl)
 refine Ev.pos (decide_eq_true w0) (Ev.bindc (side_eq _) ?_)
 by_cases h0:4≤H∧H≤32
 rotate_left
 ·exact Ev.neg (fun h=>h0 (of_decide_eq_true h)) (bad (fun h=>h0 h.2.1) _ rfl)
 refine Ev.pos (decide_eq_true h0) ?_
 have ha:=area w0 h0
 rw [wrap_in (x:=W * H) (by omega) (by omega)]
 by_cases l1:(A.length:Int)=W * H
 rotate_left
 ·exact Ev.neg l1 (bad (fun h=>l1 h.2.2.1) _ rfl)
 refine Ev.pos l1 ?_
 by_cases l2:(Y.length:Int)=W * H
 rotate_left
 ·exact bad (fun h=>l2 h.2.2.2) _ (bne_iff_ne.2 l2)
 have hs:Shape W H A Y:=⟨w0,h0,l1,l2⟩
 refine Ev.eq ?_ (if_pos hs).symm
 rw [show ((Y.length:Int) != W * H)=false from bne_eq_false_iff_eq.2 l2]
 refine Ev.step (fun k=>by simp only [h04_Validate.j0];rfl) (Ev.neg (by simp) ?_)
 have end0:∀ r,Ev (fun k=>h04_Validate.l1 k Y (Y.length:Int) (0:Int) W H A Y) r→Ev (fun k=>h04_Validate.l0 k A (A.length:Int) ((A.length:Nat):Int) W H A Y) r:=by
  intro r hr
  exact Ev.step (fun k=>by simp only [h04_Validate.l0];rfl) (Ev.neg (by omega) hr)
 have end1:∀ r,Ev (fun k=>h04_Validate.l2 k Y (Y.length:Int) (0:Int) W H A Y) r→Ev (fun k=>h04_Validate.l1 k Y (Y.length:Int) ((Y.length:Nat):Int) W H A Y) r:=by
  intro r hr
  exact Ev.step (fun k=>by simp only [h04_Validate.l1];rfl) (Ev.neg (by omega) hr)
 have end2:Ev (fun k=>h04_Validate.l2 k Y (Y.length:Int) ((Y.length:Nat):Int) W H A Y) 0 :=
  Ev.step (fun k=>by simp only [h04_Validate.l2];rfl) (Ev.neg (by omega) (Ev.now _))
 have good0:∀ i,i<A.length→ArmAt A i→∀ r,Ev (fun k=>h04_Validate.l0 k A (A.length:Int) ((i:Int)+1) W H A Y) r→Ev (fun k=>h04_Validate.l0 k A (A.length:Int) (i:Int) W H A Y) r:=by
  intro i hi p1 r hr
  unfold ArmAt at p1
  refine Ev.step (fun k=>by simp only [h04_Validate.l0];rfl) ?_
  rw [rdN,wrap_in (x:=(i:Int)+1) (by omega) (by omega)]
  exact Ev.pos (by omega) (Ev.pos (by omega) (Ev.pos (by omega) (Ev.neg (by omega) (Ev.neg (by omega) hr))))
 have bad0:∀ i,i<A.length→¬ ArmAt A i→Ev (fun k=>h04_Validate.l0 k A (A.length:Int) (i:Int) W H A Y) 1:=by
  intro i hi hp
  unfold ArmAt at hp
  refine Ev.step (fun k=>by simp only [h04_Validate.l0];rfl) ?_
  rw [rdN]
  refine Ev.pos (by omega) (Ev.pos (by omega) (Ev.pos (by omega) ?_))
  by_cases q1:A.getD i 0<0
  ·exact Ev.pos q1 (Ev.now _)
  exact Ev.neg q1 (Ev.pos (by omega) (Ev.now _))
 have good1:∀ i,i<Y.length→WayAt Y i→∀ r,Ev (fun k=>h04_Validate.l1 k Y (Y.length:Int) ((i:Int)+1) W H A Y) r→Ev (fun k=>h04_Validate.l1 k Y (Y.length:Int) (i:Int) W H A Y) r:=by
  intro i hi p1 r hr
  unfold WayAt at p1
  refine Ev.step (fun k=>by simp only [h04_Validate.l1];rfl) ?_
  rw [rdN,wrap_in (x:=(i:Int)+1) (by omega) (by omega)]
  exact Ev.pos (by omega) (Ev.pos (by omega) (Ev.pos (by omega) (Ev.neg (by omega) (Ev.neg (by omega) hr))))
 have bad1:∀ i,i<Y.length→¬ WayAt Y i→Ev (fun k=>h04_Validate.l1 k Y (Y.length:Int) (i:Int) W H A Y) 1:=by
  intro i hi hp
  unfold WayAt at hp
  refine Ev.step (fun k=>by simp only [h04_Validate.l1];rfl) ?_
  rw [rdN]
  refine Ev.pos (by omega) (Ev.pos (by omega) (Ev.pos (by omega) ?_))
  by_cases q1:Y.getD i 0<0
  ·exact Ev.pos q1 (Ev.now _)
  exact Ev.neg q1 (Ev.pos (by omega) (Ev.now _))
 have good2:∀ i,i<Y.length→OneAt A Y i→∀ r,Ev (fun k=>h04_Validate.l2 k Y (Y.length:Int) ((i:Int)+1) W H A Y) r→Ev (fun k=>h04_Validate.l2 k Y (Y.length:Int) (i:Int) W H A Y) r:=by
  intro i hi p r hr
  unfold OneAt at p
  refine Ev.step (fun k=>by simp only [h04_Validate.l2];rfl) ?_
  rw [rdN,rdN,wrap_in (x:=(i:Int)+1) (by omega) (by omega)]
  refine Ev.pos (by omega) (Ev.pos (by omega) (Ev.pos (by omega) ?_))
  by_cases q1:Y.getD i 0=0
  ·exact Ev.pos q1 hr
  exact Ev.neg q1 (Ev.pos (by omega) (Ev.bindc (straight_eq _) (Ev.pos (decide_eq_true (by omega)) hr)))
 have bad2:∀ i,i<Y.length→¬ OneAt A Y i→Ev (fun k=>h04_Validate.l2 k Y (Y.length:Int) (i:Int) W H A Y) 9:=by
  intro i hi p
  unfold OneAt at p
  refine Ev.step (fun k=>by simp only [h04_Validate.l2];rfl) ?_
  rw [rdN,rdN]
  exact Ev.pos (by omega) (Ev.pos (by omega) (Ev.pos (by omega) (Ev.neg (by omega) (Ev.pos (by omega) (Ev.bindc (straight_eq _) (Ev.neg (fun h=>by have:=of_decide_eq_true h;omega) (Ev.now _)))))))
 by_cases g0:Arms A
 rotate_left
 ·exact Ev.eq (Ev.scan_some (g:=fun k i=>h04_Validate.l0 k A (A.length:Int) i W H A Y) good0 bad0 A.length 0 (by omega) (not_all g0)) (if_neg (fun h=>g0 h.1)).symm
 refine Ev.scan_all (g:=fun k i=>h04_Validate.l0 k A (A.length:Int) i W H A Y) (end0 _ ?_) good0 A.length 0 (by omega) g0
 by_cases g1:Wayz Y
 rotate_left
 ·exact Ev.eq (Ev.scan_some (g:=fun k i=>h04_Validate.l1 k Y (Y.length:Int) i W H A Y) good1 bad1 Y.length 0 (by omega) (not_all g1)) (if_neg (fun h=>g1 h.2)).symm
 refine Ev.eq ?_ (if_pos ⟨g0,g1⟩).symm
 refine Ev.scan_all (g:=fun k i=>h04_Validate.l1 k Y (Y.length:Int) i W H A Y) (end1 _ ?_) good1 Y.length 0 (by omega) g1
 by_cases g2:Ones A Y
 ·exact Ev.eq (Ev.scan_all (g:=fun k i=>h04_Validate.l2 k Y (Y.length:Int) i W H A Y) end2 good2 Y.length 0 (by omega) g2) (if_pos g2).symm
 ·exact Ev.eq (Ev.scan_some (g:=fun k i=>h04_Validate.l2 k Y (Y.length:Int) i W H A Y) good2 bad2 Y.length 0 (by omega) (not_all g2)) (if_neg g2).symm
end
def bey (W H t s:Int):Int :=
 if s=0 then (if t % W+1<W then t+1 else -1)
 else if s=1 then (if t / W+1<H then t+W else -1)
 else if s=2 then (if 0<t % W then t - 1 else -1)
 else (if 0<t / W then t - W else -1)
structure On (W H t:Int):Prop where
 hW:4≤W∧W≤32
 hH:4≤H∧H≤32
 ht:0≤t∧t<W * H
section
variable {W H t s:Int}
theorem On.xy (h:On W H t):(0≤t % W∧t % W<W)∧(0≤t / W∧t / W<H)∧t / W * W+t % W=t∧16≤W * H∧W * H≤1024:=by
 have hW:=h.hW
 have ht:=h.ht
 have ha:=area h.hW h.hH
 have h1:=Int.emod_nonneg t (show W≠0 by omega)
 have h2:=Int.emod_lt_of_pos t (show 0<W by omega)
 have h3:0≤t / W:=Int.ediv_nonneg (by omega) (by omega)
 have h4:t / W<H:=Int.ediv_lt_of_lt_mul (by omega) (by rw [Int.mul_comm];omega)
 have h5:t / W * W+t % W=t:=by rw [Int.mul_comm];exact Int.mul_ediv_add_emod t W
 exact ⟨⟨h1,h2⟩,⟨h3,h4⟩,h5,ha⟩
theorem bey_at (h:On W H t) (s:Int):bey W H t s= -1∨(0≤bey W H t s∧bey W H t s<W * H):=by
 obtain ⟨⟨x0,x1⟩,⟨y0,y1⟩,e,a0,a1⟩:=h.xy
 have hW:=h.hW
 have hH:=h.hH
 have ht:=h.ht
 have m1:t / W * W≤(H - 1) * W:=Int.mul_le_mul_of_nonneg_right (by omega) (by omega)
 have m2:(H - 1) * W=W * H - W:=by rw [Int.sub_mul,Int.mul_comm H W];omega
 unfold bey
 by_cases s0:s=0
 ·rw [if_pos s0]
  by_cases c:t % W+1<W
  ·rw [if_pos c];exact .inr ⟨by omega,by omega⟩
  ·rw [if_neg c];exact .inl rfl
 rw [if_neg s0]
 by_cases s1:s=1
 ·rw [if_pos s1]
  by_cases c:t / W+1<H
  ·rw [if_pos c]
   have m3:(t / W+1) * W≤(H - 1) * W:=Int.mul_le_mul_of_nonneg_right (by omega) (by omega)
   have m4:(t / W+1) * W=t / W * W+W:=by rw [Int.add_mul];omega
   exact .inr ⟨by omega,by omega⟩
  ·rw [if_neg c];exact .inl rfl
 rw [if_neg s1]
 by_cases s2:s=2
 ·rw [if_pos s2]
  by_cases c:0<t % W
  ·rw [if_pos c];
   have m5:0≤t / W * W:=Int.mul_nonneg y0 (by omega)
   exact .inr ⟨by omega,by omega⟩
  ·rw [if_neg c];exact .inl rfl
 rw [if_neg s2]
 by_cases c:0<t / W
 ·rw [if_pos c]
  have m6:1 * W≤t / W * W:=Int.mul_le_mul_of_nonneg_right (by omega) (by omega)
  exact .inr ⟨by omega,by omega⟩
 ·rw [if_neg c];exact .inl rfl
theorem tdm (h:On W H t):Int.tmod t W=t % W∧Int.tdiv t W=t / W :=
 ⟨Int.tmod_eq_emod_of_nonneg h.ht.1,Int.tdiv_eq_ediv_of_nonneg h.ht.1⟩
theorem beyond_eq (A Y:List Int) (h:On W H t):road_beyond.f W H A Y t s=some (bey W H t s):=by
 obtain ⟨⟨x0,x1⟩,⟨y0,y1⟩,e,a0,a1⟩:=h.xy
 have hW:=h.hW
 have hH:=h.hH
 have ht:=h.ht
 have m5:0≤t / W * W:=Int.mul_nonneg y0 (by omega)
 have m4:(t / W+1) * W=t / W * W+W:=by rw [Int.add_mul];omega
 have m7:(t / W - 1) * W=t / W * W - W:=by rw [Int.sub_mul];omega
 unfold road_beyond.f bey
 rw [(tdm h).1,(tdm h).2,wrap_in (x:=t % W+1) (by omega) (by omega),wrap_in (x:=t % W - 1) (by omega) (by omega),wrap_in (x:=t / W) (by omega) (by omega),wrap_in (x:=t / W+1) (by omega) (by omega),wrap_in (x:=t / W - 1) (by omega) (by omega),m4,m7,wrap_in (x:=t / W * W) (by omega) (by omega),wrap_in (x:=t / W * W+W) (by omega) (by omega),wrap_in (x:=t / W * W - W) (by omega) (by omega),wrap_in (x:=t / W * W+(t % W+1)) (by omega) (by omega),wrap_in (x:=t / W * W+(t % W - 1)) (by omega) (by omega),wrap_in (x:=t / W * W+W+t % W) (by omega) (by omega),wrap_in (x:=t / W * W - W+t % W) (by omega) (by omega)]
 repeat' split
 all_goals first|rfl|omega|(congr 1;omega)
def opp (s:Int):Int:=Int.tmod (wrap64 (s+2)) 4
theorem opp_at (hs:0≤s∧s≤3):(0≤opp s∧opp s≤3)∧opp (opp s)=s:=by
 rcases (by omega:s=0∨s=1∨s=2∨s=3) with h|h|h|h <;> subst h <;> decide +kernel
theorem opp_is (hs:0≤s∧s≤3):(s=0∧opp s=2)∨(s=1∧opp s=3)∨(s=2∧opp s=0)∨(s=3∧opp s=1):=by
 rcases (by omega:s=0∨s=1∨s=2∨s=3) with h|h|h|h <;> subst h <;> decide +kernel
end
def has (a s:Int):Bool:=Go.bits .and .i64 (shr .i64 a s) 1 == 1
def meets (W H:Int) (A:List Int) (t s:Int):Int:=if 0≤bey W H t s∧has (rd A t) s=true∧has (rd A (bey W H t s)) (opp s)=true then bey W H t s else -1
structure Good (W H:Int) (A Y:List Int):Prop where
 hW:4≤W∧W≤32
 hH:4≤H∧H≤32
 hA:(A.length:Int)=W * H
 hY:(Y.length:Int)=W * H
 arms:Arms A
 ways:Wayz Y
 ones:Ones A Y
theorem good_of {W H:Int} {A Y:List Int} (h:vcode W H A Y=0):Good W H A Y:=by
 have h:=vcode_zero.1 h
 exact ⟨h.1.1,h.1.2.1,h.1.2.2.1,h.1.2.2.2,h.2.1,h.2.2.1,h.2.2.2⟩
section
variable {W H t s:Int} {A Y:List Int}
theorem Good.on (h:Good W H A Y) (ht:0≤t∧t<W * H):On W H t:=⟨h.hW,h.hH,ht⟩
theorem Good.arm (h:Good W H A Y) (ht:0≤t∧t<W * H):0≤rd A t∧rd A t≤15:=h.arms t.toNat (by omega) (by have:=h.hA;omega)
theorem meets_at (h:Good W H A Y) (ht:0≤t∧t<W * H) (s:Int):meets W H A t s= -1∨(0≤meets W H A t s∧meets W H A t s<W * H∧meets W H A t s=bey W H t s):=by
 unfold meets
 have hb:=bey_at (h.on ht) s
 by_cases c:0≤bey W H t s∧has (rd A t) s=true∧has (rd A (bey W H t s)) (opp s)=true
 ·rw [if_pos c];exact .inr ⟨by omega,by omega,rfl⟩
 ·rw [if_neg c];exact .inl rfl
theorem joined_eq (h:Good W H A Y) (ht:0≤t∧t<W * H) (hs:0≤s∧s≤3):road_joined.f W H A Y t s=some (decide (0≤meets W H A t s)):=by
 unfold road_joined.f
 rw [beyond_eq A Y (h.on ht),Option.bind_some]
 have hb:=bey_at (h.on ht) s
 have hA:=h.hA
 have ho:=(opp_at hs).1
 unfold meets
 by_cases c0:0≤bey W H t s
 rotate_left
 ·rw [if_neg (by omega),if_neg (by omega)];rfl
 rw [if_pos (show bey W H t s≥0 from c0),if_pos ht.1,if_pos (by omega),if_pos hs.1]
 by_cases c1:has (rd A t) s=true
 rotate_left
 ·rw [if_neg (fun h=>c1 (beq_iff_eq.2 h)),if_neg (fun h=>c1 h.2.1)];rfl
 rw [if_pos (beq_iff_eq.1 c1),if_pos c0,if_pos (by omega),if_pos (show 0≤Int.tmod (wrap64 (s+2)) 4 from ho.1)]
 show some (has (rd A (bey W H t s)) (opp s))=_
 by_cases c2:has (rd A (bey W H t s)) (opp s)=true
 ·rw [c2,if_pos ⟨c0,c1,rfl⟩,decide_eq_true c0]
 ·rw [if_neg (fun h=>c2 h.2.2),Bool.eq_false_iff.2 c2];rfl
end
section
variable {W H t s:Int} {A Y:List Int}
theorem check_ev (hA:A.length≤4000) (hY:Y.length≤4000):Ev (fun k=>road_check.f k W H A Y t) (if vcode W H A Y=0 then (if 0≤t∧t<W * H then 0 else 2) else vcode W H A Y):=by
 unfold road_check.f
 refine Ev.bind (validate_ev hA hY) ?_
 by_cases h:vcode W H A Y=0
 ·refine Ev.eq (Ev.pos h ?_) (if_pos h).symm
  have g:=good_of h
  have ha:=area g.hW g.hH
  rw [wrap_in (x:=W * H) (by omega) (by omega)]
  by_cases h1:t<0
  ·exact Ev.eq (Ev.pos h1 (Ev.now _)) (if_neg (by omega)).symm
  refine Ev.neg h1 ?_
  by_cases h2:t≥W * H
  ·exact Ev.eq (Ev.pos h2 (Ev.now _)) (if_neg (by omega)).symm
  ·exact Ev.eq (Ev.neg h2 (Ev.now _)) (if_pos ⟨by omega,by omega⟩).symm
 ·exact Ev.eq (Ev.neg h (Ev.now _)) (if_neg h).symm
open Classical in
noncomputable def tcode (W H:Int) (A Y:List Int) (t a b s:Int):Int:=if vcode W H A Y=0 then (if 0≤t∧t<W * H then (if a≤s∧s≤b then 0 else 1) else 2) else vcode W H A Y
theorem tcode_zero {a b:Int}:tcode W H A Y t a b s=0↔vcode W H A Y=0∧(0≤t∧t<W * H)∧a≤s∧s≤b:=by
 unfold tcode
 by_cases h1:vcode W H A Y=0
 ·rw [if_pos h1]
  by_cases h2:0≤t∧t<W * H
  ·rw [if_pos h2]
   by_cases h3:a≤s∧s≤b
   ·rw [if_pos h3];exact ⟨fun _=>⟨h1,h2,h3⟩,fun _=>rfl⟩
   ·rw [if_neg h3];exact ⟨fun h=>absurd h (by decide),fun h=>absurd h.2.2 h3⟩
  ·rw [if_neg h2];exact ⟨fun h=>absurd h (by decide),fun h=>absurd h.2.1 h2⟩
 ·rw [if_neg h1];exact ⟨fun h=>absurd h h1,fun h=>absurd h.1 h1⟩
theorem checked {α:Type} {a b:Int} (hA:A.length≤4000) (hY:Y.length≤4000) {f:Nat→Int→Option α} {r:α}
  (h:vcode W H A Y=0→0≤t∧t<W * H→Ev (fun k=>f k 0) r) (hb:∀ c,c≠0→c=tcode W H A Y t a b s→Ev (fun k=>f k c) r):Ev (fun k=>(road_check.f k W H A Y t).bind (f k)) r:=by
 refine Ev.bind (check_ev hA hY) ?_
 by_cases h1:vcode W H A Y=0
 ·rw [if_pos h1]
  by_cases h2:0≤t∧t<W * H
  ·rw [if_pos h2];exact h h1 h2
  ·rw [if_neg h2];exact hb 2 (by decide) (by unfold tcode;rw [if_pos h1,if_neg h2])
 ·rw [if_neg h1];exact hb _ h1 (by unfold tcode;rw [if_neg h1])
theorem Joined_ev (hA:A.length≤4000) (hY:Y.length≤4000):Ev (fun k=>road_Joined.f k W H A Y t s) (if tcode W H A Y t 0 3 s=0 then (decide (0≤meets W H A t s),0) else (false,tcode W H A Y t 0 3 s)):=by
 unfold road_Joined.f
 refine checked (a:=0) (b:=3) (s:=s) hA hY (fun h1 h2=>?_) (fun c hc he=>?_)
 ·refine Ev.pos (by first|rfl|trivial) ?_
  have bad:¬ (0≤s∧s≤3)→tcode W H A Y t 0 3 s=1:=by intro h;unfold tcode;rw [if_pos h1,if_pos h2,if_neg h]
  by_cases c0:s<0
  ·rw [bad (by omega)];exact Ev.pos c0 (Ev.now _)
  refine Ev.neg c0 ?_
  by_cases c1:s > 3
  ·rw [bad (by omega)];exact Ev.pos c1 (Ev.now _)
  refine Ev.eq (Ev.neg c1 (Ev.bindc (joined_eq (good_of h1) h2 ⟨by omega,by omega⟩) (Ev.now _))) (if_pos (tcode_zero.2 ⟨h1,h2,by omega,by omega⟩)).symm
 ·rw [← he]
  exact Ev.eq (Ev.neg hc (Ev.now _)) (if_neg hc).symm
end
section
variable {W H:Int} {A Y:List Int}
end
section
variable {W H t s:Int}
end
section
variable {W H t s:Int} {A Y:List Int}
end
section
variable {W H t s:Int} {A Y:List Int}
end
theorem rset_at (l:List Int) (i j:Nat) (v:Int):(l.set i v).getD j 0=if i=j∧j<l.length then v else l.getD j 0:=by
 rw [List.getD_eq_getElem?_getD,List.getElem?_set,List.getD_eq_getElem?_getD]
 by_cases h:i=j
 ·rw [if_pos h]
  by_cases h2:i<l.length
  ·rw [if_pos h2,if_pos ⟨h,by omega⟩];rfl
  ·rw [if_neg h2,if_neg (by omega),List.getElem?_eq_none (by omega)]
 ·rw [if_neg h,if_neg (fun hh=>h hh.1)]
theorem set_same {l:List Int} {i:Nat} (h:i<l.length):l.set i (l.getD i 0)=l:=by
 apply List.ext_getElem (by simp)
 intro j h1 h2
 rw [List.getElem_set]
 by_cases e:i=j
 ·subst e;rw [if_pos rfl,List.getD_eq_getElem?_getD,List.getElem?_eq_getElem h];rfl
 ·rw [if_neg e]
def orr (a x:Int):Int:=Go.bits .or .i64 a x
def nab (a x:Int):Int:=Go.bits .andNot .i64 a x
def nd (a x:Int):Int:=Go.bits .and .i64 a x
def cnt (y:Int):Int:=wrap64 ((wrap64 ((wrap64 ((Go.bits .and .i64 y 1)+(Go.bits .and .i64 (y / 2) 1)))+(Go.bits .and .i64 (y / 4) 1)))+(Go.bits .and .i64 (y / 8) 1))
theorem in_all:∀ a x:Fin 16,(0≤orr ((a.val:Nat):Int) ((x.val:Nat):Int)∧orr ((a.val:Nat):Int) ((x.val:Nat):Int)≤15)∧(0≤nab ((a.val:Nat):Int) ((x.val:Nat):Int)∧nab ((a.val:Nat):Int) ((x.val:Nat):Int)≤15):=by decide +kernel
theorem fin_of {p:Int→Int→Prop} (h:∀ a x:Fin 16,p ((a.val:Nat):Int) ((x.val:Nat):Int)) {a x:Int} (ha:0≤a∧a≤15) (hx:0≤x∧x≤15):p a x:=by
 have:=h ⟨a.toNat,by omega⟩ ⟨x.toNat,by omega⟩
 simp only [Int.toNat_of_nonneg ha.1,Int.toNat_of_nonneg hx.1] at this
 exact this
section
variable {W H t x:Int} {A Y:List Int}
theorem road_clone_eq (hA:A.length≤4000) (hY:Y.length≤4000):road_clone.f W H A Y=some (W,H,A,Y):=by
 unfold road_clone.f
 rw [if_pos (by simp;omega),if_pos (by simp;omega)]
 rfl
def waysOf (A Y:List Int) (t n:Int):List Int:=if rd A t=n then Y else Y.set t.toNat 0
theorem waysOf_len (n:Int):(waysOf A Y t n).length=Y.length:=by unfold waysOf;split <;> simp
theorem set_eq (g:Good W H A Y) (hA:A.length≤4000) (hY:Y.length≤4000) (ht:0≤t∧t<W * H) (n:Int):road_set.f W H A Y t n=some (W,H,A.set t.toNat n,waysOf A Y t n):=by
 have hAl:=g.hA
 have hYl:=g.hY
 unfold road_set.f waysOf
 rw [road_clone_eq hA hY,Option.bind_some]
 dsimp only
 rw [if_pos ht.1,if_pos (by omega)]
 by_cases c:rd A t=n
 ·rw [if_pos c,if_pos c,← c,show rd A t=A.getD t.toNat 0 from rfl,set_same (by omega)]
 ·rw [if_neg c,if_neg c,if_pos (by omega)]
theorem set_good (h:vcode W H A Y=0) (ht:0≤t∧t<W * H) {n:Int} (hn:0≤n∧n≤15):vcode W H (A.set t.toNat n) (waysOf A Y t n)=0:=by
 have g:=good_of h
 have hAl:=g.hA
 have hYl:=g.hY
 refine vcode_zero.2 ⟨⟨g.hW,g.hH,by rw [List.length_set];exact g.hA,by rw [waysOf_len];exact g.hY⟩,?_,?_,?_⟩
 ·intro j h0 hj
  rw [List.length_set] at hj
  unfold ArmAt
  rw [rset_at]
  split
  ·exact hn
  ·exact g.arms j h0 hj
 ·intro j h0 hj
  rw [waysOf_len] at hj
  unfold WayAt waysOf
  split
  ·exact g.ways j h0 hj
  ·rw [rset_at]
   split
   ·omega
   ·exact g.ways j h0 hj
 ·intro j h0 hj
  rw [waysOf_len] at hj
  unfold OneAt waysOf
  have ho:=g.ones j h0 hj
  unfold OneAt at ho
  by_cases c:rd A t=n
  ·rw [if_pos c,← c,show rd A t=A.getD t.toNat 0 from rfl,set_same (by omega)]
   exact ho
  ·rw [if_neg c,rset_at,rset_at]
   by_cases e:t.toNat=j
   ·rw [if_pos ⟨e,hj⟩];exact .inl rfl
   ·rw [if_neg (fun h=>e h.1),if_neg (fun h=>e h.1)];exact ho
open Classical in
noncomputable def paved (W H:Int) (A Y:List Int) (t x:Int):Int × Int × List Int × List Int × Int × Int :=
 if tcode W H A Y t 0 15 x=0 then (W,H,A.set t.toNat (orr (rd A t) x),waysOf A Y t (orr (rd A t) x),wrap64 (cnt (nab x (rd A t)) * 150),0) else (0,0,[],[],0,tcode W H A Y t 0 15 x)
theorem Pave_ev (hA:A.length≤4000) (hY:Y.length≤4000):Ev (fun k=>road_Pave.f k W H A Y t x) (paved W H A Y t x):=by
 unfold road_Pave.f
 refine checked (a:=0) (b:=15) (s:=x) hA hY (fun h1 h2=>?_) (fun c hc he=>?_)
 ·refine Ev.pos (by first|rfl|trivial) ?_
  have g:=good_of h1
  have hAl:=g.hA
  have fin:∀ q,q=decide (¬ (0≤x∧x≤15))→Ev (fun k=>road_Pave.j0 k t x q W H A Y) (paved W H A Y t x):=by
   intro q hq
   unfold paved
   refine Ev.step (fun k=>by simp only [road_Pave.j0];rfl) ?_
   by_cases c:0≤x∧x≤15
   rotate_left
   ·have e:tcode W H A Y t 0 15 x=1:=by unfold tcode;rw [if_pos h1,if_pos h2,if_neg c]
    rw [e];exact Ev.pos (by rw [hq];exact decide_eq_true c) (Ev.now _)
   refine Ev.eq (Ev.neg (by rw [hq];simpa using c) (Ev.pos h2.1 (Ev.pos (by omega) (Ev.bindc (set_eq g hA hY h2 _) (Ev.bindc (show road_count.f _=some (cnt _) from rfl) (Ev.now _)))))) (if_pos (tcode_zero.2 ⟨h1,h2,c⟩)).symm
  by_cases c:x<0
  ·exact Ev.pos c (fin _ (decide_eq_true (by omega)).symm)
  ·exact Ev.neg c (fin _ (decide_eq_decide.2 (by omega)))
 ·unfold paved
  rw [← he]
  exact Ev.eq (Ev.neg hc (Ev.now _)) (if_neg hc).symm
end

end Go.Proofs.Ytbdijpjlgokfkaa.Pure.R
